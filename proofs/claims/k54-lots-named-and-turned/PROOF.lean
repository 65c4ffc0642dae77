import PyProof.Rows.All
import Wide.All
import OpenK.AllK
import Wide.FinOn
import KE.KStateDown
import Lean
import HandS.Head0
import HandS.Head1
import HandS.Head2
import HandS.HeadEnd
import HandS.HeadHook1
import HandS.HeadHook2
import HandS.HeadHook3
import HandS.HeadHook4
import HandS.HeadWalk
import HandS.ForMost
import HandS.More
import HandS.Evl
import HandS.Steps
import HandS.WordsExc
import HandS.Defaults
import HandS.IsInst
import HandS.Walk
import HandS.Codes
import HandS.Style
import HandS.Flow
import HandS.Wide
import HandS.Conv
import HandS.Zip
import HandS.TupAny
import HandS.SortOrd
import KE.GoesMore
import KE.GoesEnum
import KE.SortData
import HandS.SetFor
import HandS.SetTxt0
import HandS.SetTxtIn
import HandS.Strs
import PyProof.CollectStr
import HandS.DictTup
import KE.GoesZip
import HandS.DictEq
import KE.KDictPairs
import HandS.DictComp
import PyProof.StrLawsAffix
import HandS.SetBool
import PyProof.StrBlock2
import KE.KUnpackStar
import HandS.RaiseMore
import KE.DataFind
import HandS.SetKeys
import PyProof.P3In
import KE.KDictKeyed
import KE.KeyNested
import HandS.CallRecv
import HandS.ExcInit
import KE.KExcIs
import HandS.ExcIs
import HandS.ExcField
import HandS.ExcOwn
import KE.KDflt
import HandS.Lambda
import HandS.Nested
import KE.SortKeyHeap
import KE.KSortKey
import HandS.SortKw
import HandS.TupMul
import HandS.Finally
import HandS.ExcCtx
import HandS.HotCalls
import KE.KExcRaise
import KE.KFinally
import KE.GoesComp
import HandS.ExcInitHot
import PyProof.Rows.TupIter
import HandS.RaiseFrom
import PySem.Challenge.RW_liketurns_k54_lots_named_and_turned
set_option Elab.async false
set_option linter.all false
set_option maxRecDepth 100000
set_option maxHeartbeats 4000000
namespace Lt
open PySem PySem.Spec PyProof.Rows L2 Evl
open SX (S)
abbrev Tx (l : List Nat) : V := .str (S l)
theorem tx_inj {a b : List Nat} (h : Tx a = Tx b) : a = b := SX.S_inj (V.str.inj h)
theorem tx_dec (a b : List Nat) : decide (Tx a = Tx b) = decide (a = b) := by
  by_cases h : a = b
  · subst h; simp
  · rw [decide_eq_false h, decide_eq_false fun q => h (tx_inj q)]
theorem S_cps (a : List Nat) : (S a).cps.toList = a := by simp [S]
theorem S_size (a : List Nat) : (S a).cps.size = a.length := by simp [S]
section
variable {X : Cx}
/-- a written text as its signs -/
theorem pe_strL {x : Str} {l : List Nat} {j pos} (h : x = S l) : PE X (.Constant (.str x) j pos) (tC (Tx l)) := by
  subst h
  exact pe_str
def Itw (n : Nat) (R : Nat → List V → Prop) : It :=
  ⟨fun i _ => i < n, fun i H v H' => ∃ T xs, v = .ref T ∧ H T = none ∧ H' = upd H T (.tup xs) ∧ R i xs, fun i _ => i = n⟩
theorem turn_walksT {P : Program} {w : World} {K : PySem.W.Frag} {elts : List Expr} {kk : Nat} {tpos : Pos} {I : Addr} {fp wr : List Addr} {n : Nat} {Pt : Nat → Array Value → Prop} {St : Nat → Heap → Prop} {Mid : Nat → Addr → Heap → Prop} {R : Nat → List V → Prop}
    (W : ∀ A : Around, A.handled = none → WalksT P w A I fp wr n Pt St Mid) (mem : I ∈ fp) (obj : ∀ i h, St i h → ∀ b ∈ fp, ∃ o, h.get? b = some o ∧ ∀ v, o.data ≠ .cell v)
    (rel : ∀ i vals, Pt i vals → vals.size ≤ sizeLine ∧ ∃ xs, Vals xs vals.toList ∧ R i xs)
    (self : ∀ (A : Around) (i : Nat) (s : Shared) (Q : Value → Shared → Prop) (E : Value → Shared → Prop), St i s.heap → Q (.ref I) s → wpAny (model P w) A (pyIter (.ref I)) Q E s) : Turn P w K (.Tuple elts kk tpos) (Itw n R) fp I St where
  mem := mem
  obj := obj
  keep := fun i h h' st k => (W callerA rfl).frame i h h' st k
  item := by
    intro X hP hw hK hc i pins s σ H E I0 hf st hg
    subst hP hw hK
    have D := W X.A (I0.ok.hd hc)
    refine D.item i s _ E hg st fun T vals h' tk hp hsz hT hmid hk => ⟨_, rfl, D.go elts kk tpos i T _ _ _ hmid fun h'' st' hk' => ?_⟩
    obtain ⟨hz, xs, hv, hR⟩ := rel i vals hp
    have hTn : T ∉ wr := D.apart i T h' hmid
    have hlen : xs.length ≤ sizeLine := by
      rw [hv.length, Array.length_toList]
      exact hz
    have new : ObjOk X.prog X.w (upd H T (.tup xs)) h'' T (.tup xs) := by
      obtain ⟨o, ho, hr⟩ := hT
      exact ⟨hlen, vals.toList, hv, o, hk' T o hTn ho, by simpa using hr⟩
    have I1 : Inv X pins σ (upd H T (.tup xs)) { s with heap := h'', toks := tk } :=
      I0.turnedNew (ch := wr) (fun b o hb e => hk' b o hb (hk b o hb e)) (fun b hb => hf b (D.sub b hb)) hsz new
    refine ⟨.ref T, _, I1, rfl, ⟨T, xs, rfl, I0.hok.fresh hsz, rfl, hR⟩, st', fun b hb => ?_⟩
    obtain ⟨o, ho, _⟩ := obj i s.heap st b hb
    rw [upd_ne (Nat.ne_of_lt (Nat.lt_of_lt_of_le (Heap.lt_size ho) hsz))]
    exact (hf b hb).1
  done := by
    intro X hP hw hK hc i pins s σ H E I0 hf st hg
    subst hP hw hK
    have D := W X.A (I0.ok.hd hc)
    have hg' : i = n := hg
    subst hg'
    refine D.done s _ E st fun h' tk hk => ⟨rfl, ?_⟩
    have nf : ∀ b u, H b = some u → b ∉ wr := fun b u e z => by
      have q := (hf b (D.sub b z)).1
      rw [q] at e; cases e
    refine I0.step (g' := s.gens) (d' := s.drawn) (ch := wr) (fun b hb => ?_) (fun b o _ _ hc e _ => hk b o hc e) (fun b o _ _ hc e _ => ⟨o.slots, hk b o hc e⟩) (fun _ _ _ _ n => n)
      (fun b o hc e => ⟨o, hk b o hc e⟩) (fun _ _ e => e) (fun _ _ _ e => e) (fun b ps e => ⟨#[], by rw [e]; simp⟩) (fun m hm => ?_) (fun b u e => ?_) I0.bare
    · obtain ⟨f0, f1, f2, f3, f4, f5⟩ := hf b (D.sub b hb)
      exact ⟨f3, f1, f4, f5⟩
    · obtain ⟨o, es, ep, ho, r⟩ := hm
      refine ⟨o, es, ep, hk _ o (fun z => (hf _ (D.sub _ z)).2.1 rfl) ho, r⟩
    · refine (I0.hok b u e).stay (fun c v hc q => hk c v ?_ q) (fun _ q => q) fun _ _ q => q
      rcases hc with z | z
      · rw [z]; exact nf b u e
      · exact nf c _ z
  self := self
abbrev Itex (l : List Nat) : It := Itw l.length fun i xs => ∃ c, l[i]? = some c ∧ xs = [.int (i : Nat), Tx [c]]
abbrev Itzx (l m : List Nat) : It := Itw (min l.length m.length) fun i xs => ∃ c d, l[i]? = some c ∧ m[i]? = some d ∧ xs = [Tx [c], Tx [d]]
theorem itw_congr {n m : Nat} {R R' : Nat → List V → Prop} (h : n = m) (hr : ∀ i xs, R i xs ↔ R' i xs) : Itw n R = Itw m R' := by
  subst h
  have : R = R' := by funext i xs; exact propext (hr i xs)
  rw [this]
theorem itex_S (l : List Nat) : (Itw (S l).cps.size fun i xs => ∃ c, (S l).cps[i]? = some c ∧ xs = [.int (i : Nat), .str ⟨#[c]⟩]) = Itex l :=
  itw_congr (S_size l) (by intro i xs; simp [S])
theorem itzx_S (l m : List Nat) : (Itw (min (S l).cps.size (S m).cps.size) fun i xs => ∃ c d, (S l).cps[i]? = some c ∧ (S m).cps[i]? = some d ∧ xs = [V.str ⟨#[c]⟩, .str ⟨#[d]⟩]) = Itzx l m :=
  itw_congr (by rw [S_size, S_size]) (by intro i xs; simp [S])
def iEnumX (ta : TA) : TI := fun σ H R => ta σ H fun vs H1 => ∃ l, vs = [Tx l] ∧ R (Itex l) H1
theorem pi_enumX {e : Expr} {ta : TA} {p pos tpos : Pos} {elts : List Expr} {kk : Nat} (hg : Gl X "enumerate") (hm : X.mg "enumerate" = none) (ha : PA X [e] ta) (hs : starEach [e] X.env = [(false, eval e X.env)] := by rfl) :
    PI X (.Tuple elts kk tpos) (.Call (.Name "enumerate" p) [e] [] pos) (iEnumX ta) := by
  refine ⟨fun pins s σ H R I h => ?_⟩
  refine Call_ (ld_blt I hg hm boot_enumerate (PyProof.Rows.callWith_type1 (thn (ha.run pos pins s σ H _ I h) fun us s1 ⟨vs, H1, I1, r1, q1⟩ => ?_) hs rfl))
  obtain ⟨l, ex, q0⟩ := q1
  subst ex
  have q : R (Itw (S l).cps.size fun i xs => ∃ c, (S l).cps[i]? = some c ∧ xs = [.int (i : Nat), .str ⟨#[c]⟩]) H1 := by
    rw [itex_S]; exact q0
  cases r1 with
  | cons r rr =>
    cases rr
    obtain ⟨t, rfl⟩ := r
    refine call_enumerate_str fun h' he hit hsz hk => wpAny_pyIter_enum he ?_
    have I2 : Inv X pins σ H1 { s1 with heap := h' } := I1.kept (t' := s1.toks) hk
    have hne : s1.heap.objs.size + 1 ≠ s1.heap.objs.size := Nat.succ_ne_self _
    refine ⟨s1.heap.objs.size + 1, [s1.heap.objs.size + 1, s1.heap.objs.size], _, _, H1, rfl, I2,
      turn_walksT (wr := [s1.heap.objs.size + 1, s1.heap.objs.size]) (n := (S l).cps.size)
        (fun A hA => WalksT.enumerateD (Draws.text (A := A.in1) hA s1.heap.objs.size (S l) t) (s1.heap.objs.size + 1) hne (by simp) (by simp)) (by simp)
        (fun i h st b hb => ?_) (fun i vals hp => ?_) (fun A i s Q E st hq => ?_), ⟨⟨_, he⟩, hit⟩, fun b hb => ?_, q⟩
    · obtain ⟨⟨old, he'⟩, ⟨o, ho, hc, hd⟩⟩ := st
      have e' : b = s1.heap.objs.size + 1 ∨ b = s1.heap.objs.size := by simpa using hb
      rcases e' with z | z
      · rw [z]; exact ⟨_, he', fun v q => nomatch q⟩
      · rw [z]; exact ⟨o, ho, fun v q => by rw [hd] at q; cases q⟩
    · obtain ⟨t', v, ⟨c, u, hc, rfl⟩, rfl⟩ := hp
      exact ⟨by show 2 ≤ sizeLine; decide, [.int (i : Nat), .str ⟨#[c]⟩], .cons ⟨_, rfl⟩ (.cons ⟨_, rfl⟩ .nil), c, hc, rfl⟩
    · obtain ⟨⟨old, he'⟩, _⟩ := st
      exact wpAny_pyIter_enum he' hq
    · have e' : b = s1.heap.objs.size + 1 ∨ b = s1.heap.objs.size := by simpa using hb
      have hle : s1.heap.objs.size ≤ b := by
        rcases e' with z | z
        · rw [z]; exact Nat.le_add_right _ _
        · rw [z]; exact Nat.le_refl _
      exact I1.fpOk hle (I1.hok.fresh hle)
def iZipX (ta : TA) : TI := fun σ H R => ta σ H fun vs H1 => ∃ l m, vs = [Tx l, Tx m] ∧ R (Itzx l m) H1
theorem pi_zipX {e e2 : Expr} {ta : TA} {p pos tpos : Pos} {elts : List Expr} {kk : Nat} (hg : Gl X "zip") (hm : X.mg "zip" = none) (ha : PA X [e, e2] ta)
    (hs : starEach [e, e2] X.env = (false, eval e X.env) :: starEach [e2] X.env := by rfl) (hpl : (backTo pos (starEach [e2] X.env)).any (·.1) = false := by rfl) :
    PI X (.Tuple elts kk tpos) (.Call (.Name "zip" p) [e, e2] [] pos) (iZipX ta) := by
  refine ⟨fun pins s σ H R I h => ?_⟩
  refine Call_ (ld_blt I hg hm PyProof.Rows.boot_zip (PyProof.Rows.callWith_type1 (thn (ha.run pos pins s σ H _ I h) fun us s1 ⟨vs, H1, I1, r1, q1⟩ => ?_) hs hpl))
  obtain ⟨l, m, ex, q0⟩ := q1
  subst ex
  have q : R (Itw (min (S l).cps.size (S m).cps.size) fun i xs => ∃ c d, (S l).cps[i]? = some c ∧ (S m).cps[i]? = some d ∧ xs = [V.str ⟨#[c]⟩, .str ⟨#[d]⟩]) H1 := by
    rw [itzx_S]; exact q0
  cases r1 with
  | cons r rr =>
    cases rr with
    | cons r2 rr =>
      cases rr
      obtain ⟨t, rfl⟩ := r
      obtain ⟨t2, rfl⟩ := r2
      refine zip_begins2 (begins_text (S l) t) (begins_text (S m) t2) trivial trivial fun h' hz hTI hTO h0 h1 hsz hk => wpAny_pyIter_zip hz ?_
      have I2 : Inv X pins σ H1 { s1 with heap := h' } := I1.kept (t' := s1.toks) hk
      refine ⟨s1.heap.objs.size + 4, _, _, _, H1, rfl, I2,
        turn_walksT (n := min (S l).cps.size (S m).cps.size)
          (fun A hA => WalksT.zipD2 (zip_sep2 (N := s1.heap.objs.size) (fp1 := []) (fp2 := []) (by simp) (by simp)) (Draws.text (A := A.in1) hA s1.heap.objs.size (S l) t) (Draws.text (A := A.in1) hA (s1.heap.objs.size + 1) (S m) t2)) (by simp)
          (fun i h st b hb => ?_) (fun i vals hp => ?_) (fun A i s Q E st hq => ?_), ⟨hz, hTI, ⟨_, _, hTO⟩, ⟨_, h0, rfl, rfl⟩, ⟨_, h1, rfl, rfl⟩⟩, fun b hb => ?_, q⟩
      · obtain ⟨hz', ho2, ⟨a1, a2, ho3⟩, ⟨o, ho, hc, hd⟩, ⟨o', ho', hc', hd'⟩⟩ := st
        have e' : b = s1.heap.objs.size + 4 ∨ b = s1.heap.objs.size + 2 ∨ b = s1.heap.objs.size + 3 ∨ b = s1.heap.objs.size ∨ b = s1.heap.objs.size + 1 := by simpa using hb
        rcases e' with z | z | z | z | z
        · rw [z]; exact ⟨_, hz', fun v q => nomatch q⟩
        · rw [z]; exact ⟨_, ho2, fun v q => nomatch q⟩
        · rw [z]; exact ⟨_, ho3, fun v q => nomatch q⟩
        · rw [z]; exact ⟨o, ho, fun v q => by rw [hd] at q; cases q⟩
        · rw [z]; exact ⟨o', ho', fun v q => by rw [hd'] at q; cases q⟩
      · obtain ⟨v1, v2, ⟨c, u, hc, rfl⟩, ⟨d, u2, hd, rfl⟩, rfl⟩ := hp
        exact ⟨by show 2 ≤ sizeLine; decide, [.str ⟨#[c]⟩, .str ⟨#[d]⟩], .cons ⟨_, rfl⟩ (.cons ⟨_, rfl⟩ .nil), c, d, hc, hd, rfl⟩
      · exact wpAny_pyIter_zip st.1 hq
      · have e' : b = s1.heap.objs.size + 4 ∨ b = s1.heap.objs.size + 2 ∨ b = s1.heap.objs.size + 3 ∨ b = s1.heap.objs.size ∨ b = s1.heap.objs.size + 1 := by simpa using hb
        have hle : s1.heap.objs.size ≤ b := by
          rcases e' with z | z | z | z | z <;> rw [z] <;> first | exact Nat.le_refl _ | exact Nat.le_add_right _ _
        exact I1.fpOk hle (I1.hok.fresh hle)
end
end Lt
namespace Lt
open PySem PySem.Spec PyProof.Rows L2 Evl
open SX (S)
theorem OpR.orr {X : Cx} {f : Value → Value → Sem Value} {r r' : R2} (h : OpR X f r) (h' : OpR X f r') : OpR X f (fun x y H Q => r x y H Q ∨ r' x y H Q) := by
  intro pins s σ H x y v u Q I rx ry q
  rcases q with q | q
  · exact h pins s σ H x y v u Q I rx ry q
  · exact h' pins s σ H x y v u Q I rx ry q
theorem OpR.wk {X : Cx} {f : Value → Value → Sem Value} {r r' : R2} (h : OpR X f r) (w : ∀ x y H Q, r' x y H Q → r x y H Q) : OpR X f r' := by
  intro pins s σ H x y v u Q I rx ry q
  exact h pins s σ H x y v u Q I rx ry (w _ _ _ _ q)
theorem CallR.wk {X : Cx} {f : Value} {r r' : List V → Hp → VK → Prop} (h : CallR X f r) (w : ∀ xs H Q, r' xs H Q → r xs H Q) : CallR X f r' := by
  intro pins s σ H xs us Q I rx q
  exact h pins s σ H xs us Q I rx (w _ _ _ q)
theorem SlR.wk {X : Cx} {r r' : V → Option Int → Option Int → Hp → VK → Prop} (h : L2.SlR X r) (w : ∀ x lo hi H Q, r' x lo hi H Q → r x lo hi H Q) : L2.SlR X r' := by
  intro pins s σ H x v vl vu lo hi sl Q I rx hs pl pu q
  exact h pins s σ H x v vl vu lo hi sl Q I rx hs pl pu (w _ _ _ _ _ q)
theorem IxR.wk {X : Cx} {r r' : R2} (h : IxR X r) (w : ∀ x y H Q, r' x y H Q → r x y H Q) : IxR X r' := by
  intro value slice pins s σ H x y v u Q I rx ry q
  exact h value slice pins s σ H x y v u Q I rx ry (w _ _ _ _ q)
section
variable {X : Cx}
def rAddI : R2 := rI0 fun i j => .int (i + j)
def rAddT : R2 := fun x y H Q => ∃ a b, x = Tx a ∧ y = Tx b ∧ a.length + b.length ≤ sizeLine ∧ Q (Tx (a ++ b)) H
theorem op_addT : OpR X (binaryOp .Add) rAddT := OpR.wk op_add_str fun x y H Q ⟨a, b, ex, ey, hl, q⟩ =>
  ⟨S a, S b, ex, ey, by rw [SX.S_len, SX.S_len]; exact hl, by rw [SX.S_cat]; exact q⟩
/-- a new object o at p, all else as it was -/
def New (H : Hp) (o : HO) (Q : VK) : Prop := ∀ (p : Addr) (H2 : Hp), H p = none → Ex H H2 → H2 p = some o → Q (.ref p) H2
theorem New.upd {H : Hp} {o : HO} {Q : VK} (h : New H o Q) : ∀ p, H p = none → Q (.ref p) (upd H p o) := fun p hp => h p _ hp (Ex.new hp) upd_same
def rCatX : R2 := fun x y H Q => ∃ l b xs zs, x = .ref l ∧ y = .ref b ∧ H l = some (.lst xs) ∧ H b = some (.lst zs) ∧ xs.length + zs.length ≤ sizeLine ∧ New H (.lst (xs ++ zs)) Q
theorem op_catX : OpR X (binaryOp .Add) rCatX := OpR.wk op_cat fun x y H Q ⟨l, b, xs, zs, e1, e2, h1, h2, hl, q⟩ => ⟨l, b, xs, zs, e1, e2, h1, h2, hl, q.upd⟩
/-- tuple + tuple: told as if it were always new, wherever that is all that's used -/
def rCatTX : R2 := fun x y H Q => ∃ a b xs ys, x = .ref a ∧ y = .ref b ∧ H a = some (.tup xs) ∧ H b = some (.tup ys) ∧ xs.length + ys.length ≤ sizeLine ∧ ∀ p H2, Ex H H2 → H2 p = some (.tup (xs ++ ys)) → Q (.ref p) H2
theorem op_catTX : OpR X (binaryOp .Add) rCatTX := OpR.wk (r := rCatA X.K) op_catA fun x y H Q ⟨a, b, xs, ys, e1, e2, h1, h2, hl, q⟩ =>
  ⟨a, b, xs, ys, e1, e2, SqT.of h1, SqT.of h2, hl, fun h => q b H (Ex.refl H) (by rw [h2, h]; rfl), fun _ h => q a H (Ex.refl H) (by rw [h1, h, List.append_nil]), fun _ _ p hp => q p _ (Ex.new hp) upd_same⟩
def rAddU : R2 := fun x y H Q => rAddI x y H Q ∨ rAddT x y H Q ∨ rCatX x y H Q ∨ rCatTX x y H Q
theorem op_addU : OpR X (binaryOp .Add) rAddU := OpR.orr op_add (OpR.orr op_addT (OpR.orr op_catX op_catTX))
def rLtU : R2 := fun x y H Q => (∃ i j, x = .int i ∧ y = .int j ∧ Q (.bl (decide (i < j))) H) ∨ ∃ a b, x = Tx a ∧ y = Tx b ∧ Q (.bl (decide (a < b))) H
theorem op_ltU : OpR X (compareOp .Lt) rLtU := OpR.orr op_lt (OpR.wk op_lt_str fun x y H Q ⟨a, b, ex, ey, q⟩ => ⟨S a, S b, ex, ey, by rw [S_cps, S_cps]; exact q⟩)
def rGtU : R2 := fun x y H Q => (∃ i j, x = .int i ∧ y = .int j ∧ Q (.bl (decide (j < i))) H) ∨ ∃ a b, x = Tx a ∧ y = Tx b ∧ Q (.bl (decide (b < a))) H
theorem op_gtU : OpR X (compareOp .Gt) rGtU := OpR.orr op_gt (OpR.wk op_gt_str fun x y H Q ⟨a, b, ex, ey, q⟩ => ⟨S a, S b, ex, ey, by rw [S_cps, S_cps]; exact q⟩)
def rLeU : R2 := fun x y H Q => (∃ i j, x = .int i ∧ y = .int j ∧ Q (.bl (decide (i ≤ j))) H) ∨ ∃ a b, x = Tx a ∧ y = Tx b ∧ Q (.bl (!decide (b < a))) H
theorem op_leU : OpR X (compareOp .LtE) rLeU := OpR.orr op_le (OpR.wk op_le_str fun x y H Q ⟨a, b, ex, ey, q⟩ => ⟨S a, S b, ex, ey, by rw [S_cps, S_cps]; exact q⟩)
def rGeU : R2 := fun x y H Q => (∃ i j, x = .int i ∧ y = .int j ∧ Q (.bl (decide (j ≤ i))) H) ∨ ∃ a b, x = Tx a ∧ y = Tx b ∧ Q (.bl (!decide (a < b))) H
theorem op_geU : OpR X (compareOp .GtE) rGeU := OpR.orr op_ge (OpR.wk op_ge_str fun x y H Q ⟨a, b, ex, ey, q⟩ => ⟨S a, S b, ex, ey, by rw [S_cps, S_cps]; exact q⟩)
/-- == of texts, ints, other flat things; of data -/
def rEqU (K : PySem.W.Frag) : R2 := fun x y H Q => (∃ i j, x = .int i ∧ y = .int j ∧ Q (.bl (decide (i = j))) H) ∨ (∃ a b, x = Tx a ∧ y = Tx b ∧ Q (.bl (decide (a = b))) H) ∨ rEq x y H Q ∨
  ∃ d e, Dp K H x d ∧ Dp K H y e ∧ SeqAt.shaped d = true ∧ SeqAt.shaped e = true ∧ Q (.bl (PyData.eqv d e)) H
theorem op_eqU (hu : X.A.units + 64 < cLine) : OpR X (compareOp .Eq) (rEqU X.K) := OpR.orr (OpR.wk op_eq fun x y H Q ⟨i, j, ex, ey, q⟩ => by
    subst ex ey
    refine ⟨rfl, ?_⟩
    have e : decide (V.int i = V.int j) = decide (i = j) := by by_cases h : i = j <;> simp [h]
    rw [e]; exact q)
  (OpR.orr (OpR.wk op_eq fun x y H Q ⟨i, j, ex, ey, q⟩ => by
    subst ex ey
    refine ⟨rfl, ?_⟩
    rw [tx_dec]; exact q) (OpR.orr op_eq (op_eqD hu)))
def rNeU (K : PySem.W.Frag) : R2 := fun x y H Q => (∃ i j, x = .int i ∧ y = .int j ∧ Q (.bl (!decide (i = j))) H) ∨ (∃ a b, x = Tx a ∧ y = Tx b ∧ Q (.bl (!decide (a = b))) H) ∨ rNe x y H Q ∨
  ∃ d e, Dp K H x d ∧ Dp K H y e ∧ SeqAt.shaped d = true ∧ SeqAt.shaped e = true ∧ Q (.bl (!PyData.eqv d e)) H
theorem op_neU (hu : X.A.units + 64 < cLine) : OpR X (compareOp .NotEq) (rNeU X.K) := OpR.orr (OpR.wk op_ne fun x y H Q ⟨i, j, ex, ey, q⟩ => by
    subst ex ey
    refine ⟨rfl, ?_⟩
    have e : decide (V.int i = V.int j) = decide (i = j) := by by_cases h : i = j <;> simp [h]
    rw [e]; exact q)
  (OpR.orr (OpR.wk op_ne fun x y H Q ⟨i, j, ex, ey, q⟩ => by
    subst ex ey
    refine ⟨rfl, ?_⟩
    rw [tx_dec]; exact q) (OpR.orr op_ne (op_neD hu)))
/-- in: a sign in a text; a flat thing in a list or a tuple -/
def rInU (K : PySem.W.Frag) : R2 := fun x y H Q => (∃ c l, x = Tx [c] ∧ y = Tx l ∧ Q (.bl (decide (c ∈ l))) H) ∨ rIn K false x y H Q
theorem op_inU : OpR X (compareOp .In) (rInU X.K) := OpR.orr (OpR.wk op_in_sign fun x y H Q ⟨c, l, ex, ey, q⟩ => ⟨c, S l, ex, ey, by rw [S_cps]; exact q⟩) op_in_seq
def rNotInU (K : PySem.W.Frag) : R2 := fun x y H Q => (∃ c l, x = Tx [c] ∧ y = Tx l ∧ Q (.bl (!decide (c ∈ l))) H) ∨ rIn K true x y H Q
theorem op_notInU : OpR X (compareOp .NotIn) (rNotInU X.K) := OpR.orr (OpR.wk op_notIn_sign fun x y H Q ⟨c, l, ex, ey, q⟩ => ⟨c, S l, ex, ey, by rw [S_cps]; exact q⟩) op_notIn_seq
def rIxX : R2 := fun x y H Q => ∃ l i c, x = Tx l ∧ y = .int i ∧ l.length ≤ sizeLine ∧ atI l i = some c ∧ Q (Tx [c]) H
def rIxU (K : PySem.W.Frag) : R2 := fun x y H Q => rIxX x y H Q ∨ rIxT K x y H Q ∨ rIxL K x y H Q
theorem ix_U : IxR X (rIxU X.K) := IxR.wk ix_seq fun x y H Q h => by
  rcases h with ⟨l, i, c, ex, ey, hl, ha, q⟩ | h | h
  · exact .inr (.inr ⟨S l, i, c, ex, ey, by rw [SX.S_len]; exact hl, by rw [S_cps]; exact ha, q⟩)
  · exact .inr (.inl h)
  · exact .inl h
def cutL {α : Type} (l : List α) (lo hi : Option Int) : List α := (l.drop (HT.sIx l.length 0 lo)).take (HT.sIx l.length l.length hi - HT.sIx l.length 0 lo)
theorem cutL_length {α : Type} (l : List α) (lo hi : Option Int) : (cutL l lo hi).length ≤ l.length := by
  unfold cutL
  rw [List.length_take, List.length_drop]
  omega
theorem cutS_S (l : List Nat) (lo hi : Option Int) : cutS (S l) lo hi = S (cutL l lo hi) := by
  unfold cutS cutL
  rw [S_cps, SX.S_len]
def rSlX : V → Option Int → Option Int → Hp → VK → Prop := fun x lo hi H Q => ∃ l, x = Tx l ∧ l.length ≤ sizeLine ∧ Q (Tx (cutL l lo hi)) H
theorem sl_X : L2.SlR X rSlX := SlR.wk sl_str fun x lo hi H Q ⟨l, ex, hl, q⟩ => ⟨S l, ex, by rw [SX.S_len]; exact hl, by rw [cutS_S]; exact q⟩
def rSlLX : V → Option Int → Option Int → Hp → VK → Prop := fun x lo hi H Q => ∃ a xs, x = .ref a ∧ H a = some (.lst xs) ∧ New H (.lst (cutL xs lo hi)) Q
theorem sl_LX : L2.SlR X rSlLX := SlR.wk (r := rSlL X.K) sl_list fun x lo hi H Q ⟨a, xs, e, h, q⟩ => ⟨a, xs, e, SqL.of h, q.upd⟩
def rSlTX : V → Option Int → Option Int → Hp → VK → Prop := fun x lo hi H Q => ∃ a xs, x = .ref a ∧ H a = some (.tup xs) ∧ ∀ p H2, Ex H H2 → H2 p = some (.tup (cutL xs lo hi)) → Q (.ref p) H2
theorem cut_whole {α : Type} {xs : List α} {lo hi : Option Int} (h : HT.sIx xs.length 0 lo = 0 ∧ HT.sIx xs.length xs.length hi = xs.length) : cutL xs lo hi = xs := by
  unfold cutL
  rw [h.1, h.2, List.drop_zero, Nat.sub_zero, List.take_length]
theorem sl_TX : L2.SlR X rSlTX := SlR.wk (r := rSlA X.K) sl_tupA fun x lo hi H Q ⟨a, xs, e, h, q⟩ => ⟨a, xs, e, SqT.of h, fun c => q a H (Ex.refl H) (by rw [h, cut_whole c]), fun _ p hp => q p _ (Ex.new hp) upd_same⟩
def rSlU : V → Option Int → Option Int → Hp → VK → Prop := fun x lo hi H Q => rSlX x lo hi H Q ∨ rSlLX x lo hi H Q ∨ rSlTX x lo hi H Q
theorem sl_U : L2.SlR X rSlU := SlR.or sl_X (SlR.or sl_LX sl_TX)
/-- (a, b), [a, b] -/
def tTupX (t : TA) : TE := fun σ H Q => t σ H fun xs H1 => xs.length ≤ sizeLine ∧ New H1 (.tup xs) Q
def tLstX (t : TA) : TE := fun σ H Q => t σ H fun xs H1 => xs.length ≤ sizeLine ∧ New H1 (.lst xs) Q
theorem pe_tupX {es : List Expr} {t : TA} {x1 pos} (h : PA X es t) : PE X (.Tuple es x1 pos) (tTupX t) := by
  refine ⟨fun pins s σ H Q I hq => ?_⟩
  refine wpAny_Tuple_spliced (thn (h.run pos pins s σ H _ I hq) fun us s1 ⟨xs, H1, I1, r, z, q⟩ => ⟨by rw [← r.length]; exact z, ?_⟩)
  have hf : H1 s1.heap.objs.size = none := I1.hok.fresh (Nat.le_refl _)
  refine ⟨.ref s1.heap.objs.size, upd H1 s1.heap.objs.size (.tup xs), I1.laid (t' := s1.toks) (fun b u e => Heap.get?_push_of_some _ e) (Nat.le_refl _) ?_, rfl, q.upd _ hf⟩
  exact ⟨z, us, r, ⟨_, Heap.get?_push_size _ rfl, rfl, _, rfl⟩⟩
theorem pe_lstX {es : List Expr} {t : TA} {pos} (h : PA X es t) : PE X (.List es pos) (tLstX t) := by
  refine ⟨fun pins s σ H Q I hq => ?_⟩
  refine wpAny_List_spliced (thn (h.run pos pins s σ H _ I hq) fun us s1 ⟨xs, H1, I1, r, z, q⟩ => ⟨by rw [← r.length]; exact z, ?_⟩)
  have hf : H1 s1.heap.objs.size = none := I1.hok.fresh (Nat.le_refl _)
  refine ⟨.ref s1.heap.objs.size, upd H1 s1.heap.objs.size (.lst xs), I1.laid (t' := s1.toks) (fun b u e => Heap.get?_push_of_some _ e) (Nat.le_refl _) ?_, rfl, q.upd _ hf⟩
  exact ⟨z, us, 0, r, Heap.get?_push_size _ rfl⟩
def rLenU (K : PySem.W.Frag) : List V → Hp → VK → Prop := fun xs H Q => (∃ l, xs = [Tx l] ∧ l.length ≤ sizeLine ∧ Q (.int (l.length : Int)) H) ∨
  (∃ p ys, xs = [.ref p] ∧ (SqL K H p ys ∨ SqT K H p ys) ∧ Q (.int ys.length) H)
theorem call_lenU : CallR X (.builtin "len") (rLenU X.K) := CallR.or (CallR.wk call_len_str fun xs H Q ⟨l, ex, hl, q⟩ => ⟨S l, ex, by rw [SX.S_len]; exact hl, by rw [SX.S_len]; exact q⟩) call_len_seq
/-- text[::-1] -/
def tRevX (te : TE) : TE := fun σ H Q => te σ H fun x H1 => ∃ l, x = Tx l ∧ l.length ≤ sizeLine ∧ Q (Tx l.reverse) H1
theorem rev_idx (n : Nat) : Builtin.Str.strSliceIndices none none (-1) n = (List.range n).reverse := by
  have h := PySem.W.krv_sliceRange n
  unfold Builtin.Str.strSliceIndices
  simp only [show ¬ ((-1 : Int) > 0) by decide, if_false]
  rw [h, PySem.W.krv_range]
theorem pe_revX {e : Expr} {te : TE} {k : Nat} {p1 p2 p3 pos : Pos} (he : PE X e te) : PE X (.Subscript e (.Slice none none (some (.UnaryOp .USub (.Constant (.int 1) k p1) p2)) p3) pos) (tRevX te) := by
  refine ⟨fun pins s σ H Q I h => ?_⟩
  refine Subscript_ (thn (he.run pins s σ H _ I h) fun v s1 ⟨x, H1, I1, r1, q1⟩ => ?_)
  obtain ⟨z, ex, hz, q⟩ := q1
  subst ex
  obtain ⟨t, rfl⟩ := r1
  have hst : PO X (some (.UnaryOp .USub (.Constant (.int 1) k p1) p2)) (tPart (tUn (rU fun i => .int (-i)) (tC (.int 1)))) := po_some (pe_un un_neg pe_int)
  refine wpAny_Slice (thn (po_none.run pins s1 σ H1 (fun o H2 => o = none ∧ H2 = H1) I1 ⟨rfl, rfl⟩) fun vl s2 ⟨l, H2, I2, pl, el, e2⟩ => ?_)
  subst el e2
  refine thn (po_none.run pins s2 σ H2 (fun o H3 => o = none ∧ H3 = H2) I2 ⟨rfl, rfl⟩) fun vu s3 ⟨u, H3, I3, pu, eu, e3⟩ => ?_
  subst eu e3
  refine thn (hst.run pins s3 σ H3 (fun o H4 => o = some (-1) ∧ H4 = H3) I3 ⟨1, rfl, -1, rfl, rfl, rfl⟩) fun vs s4 ⟨o, H4, I4, ps, eo, e4⟩ => ?_
  subst eo e4
  have I5 : Inv X pins σ H4 { s4 with heap := s4.heap.push { cls := .type "slice", data := .fields #[vl, vu, vs] } } := I4.kept (t' := s4.toks) fun b ob q => Heap.get?_push_of_some _ q
  obtain ⟨l', rfl, el⟩ := IsPart.raw pl
  obtain ⟨u', rfl, eu⟩ := IsPart.raw pu
  obtain ⟨st', rfl, e5⟩ := IsPart.raw ps
  cases l' with
  | some _ => cases el
  | none =>
  cases u' with
  | some _ => cases eu
  | none =>
  cases st' with
  | none => cases e5
  | some st' =>
  have e5 : st'.1 = -1 := Option.some.inj e5
  show wpAny (model X.prog X.w) X.A (subscriptTail e (.Slice none none (some (.UnaryOp .USub (.Constant (.int 1) k p1) p2)) p3) (.str (S z) t) (.ref s4.heap.objs.size)) (EP X pins σ Q) X.xe _
  refine tail_any (ops := [.str (S z) t, .ref s4.heap.objs.size]) (typeIs_str _ _ _) (F.slot_str_getitem.lookup) ?_ (by with_unfolding_all rfl)
  refine wpAny_getItem_str_slice (l := none) (u := none) (st := some st') ⟨_, Heap.get?_push_size _ rfl, rfl, rfl⟩ (by show (st'.1 == 0) = false; rw [e5]; rfl) ?_
  unfold sliceMade
  show Made.post (if ((st'.1 == 1) && (Builtin.Str.strSliceIndices none none st'.1 (S z).length).length == (S z).length) = true then Made.val (.str (S z) t)
    else Made.str ⟨((Builtin.Str.strSliceIndices none none st'.1 (S z).length).filterMap ((S z).cps[·]?)).toArray⟩) (EP X pins σ Q) _
  rw [e5, show ((-1 : Int) == 1) = false from rfl, Bool.false_and, if_neg Bool.false_ne_true, rev_idx, List.filterMap_reverse]
  have hall : (List.range (S z).length).filterMap ((S z).cps[·]?) = z := by
    have h := PySem.W.krv_all (S z).cps
    rw [S_cps] at h
    exact h
  rw [hall]
  exact ⟨by show z.reverse.toArray.size ≤ sizeLine; rw [List.size_toArray, List.length_reverse]; exact hz, Tx z.reverse, _, I5.tok _, ⟨_, rfl⟩, q⟩
def Itx (l : List Nat) : It := Its (S l)
theorem walk_tx {l : List Nat} : Walk (Itx l) l.length (fun _ => True) (fun i H v H' => H' = H ∧ ∃ c, l[i]? = some c ∧ v = Tx [c]) := by
  have w := walk_str (z := S l)
  rw [S_size] at w
  refine w.mono (fun _ h => h) fun i H v H' _ _ ⟨e, c, hc, hv⟩ => ⟨e, c, ?_, hv⟩
  rw [← hc]; simp [S]
def iAny (K : PySem.W.Frag) (te : TE) : TI := fun σ H R => te σ H fun v H1 => (∃ l, v = Tx l ∧ R (Itx l) H1) ∨ (∃ a xs, v = .ref a ∧ SqT K H1 a xs ∧ R (Itt K a) H1) ∨ (∃ a xs, v = .ref a ∧ SqL K H1 a xs ∧ R (Itl K a) H1)
theorem pi_any {tg e : Expr} {te : TE} (he : PE X e te) : PI X tg e (iAny X.K te) := by
  refine ⟨fun pins s σ H R I h => ?_⟩
  refine thn (he.run pins s σ H _ I h) fun v s1 ⟨y, H1, I1, r1, q1⟩ => ?_
  rcases q1 with ⟨l, ex, q⟩ | ⟨a, xs, e, hq, q⟩ | ⟨a, xs, e, hq, q⟩
  · subst ex
    obtain ⟨t, rfl⟩ := r1
    cases ha : (S l).cps.all (· < 128)
    · exact wpAny_pyIter_wide ha (pi_one (tk := s1.toks) I1 _ (turn_str _ (S l) t "str_iterator" (.inr rfl)) ⟨_, Heap.get?_push_size _ rfl, rfl, rfl⟩ q)
    · exact wpAny_pyIter_ascii ha (pi_one (tk := s1.toks) I1 _ (turn_str _ (S l) t "str_ascii_iterator" (.inl rfl)) ⟨_, Heap.get?_push_size _ rfl, rfl, rfl⟩ q)
  · subst e
    cases r1
    obtain ⟨its, rv, p, hz⟩ := I1.tuple hq
    refine wpAny_pyIter_tuple (show s1.heap.IsTuple a its.toArray from p) ?_
    refine ⟨s1.heap.objs.size, [s1.heap.objs.size], _, _, H1, rfl, I1.kept (t' := s1.toks) fun b o e => Heap.get?_push_of_some _ e, turn_tuple a _, ⟨_, Heap.get?_push_size _ rfl, rfl, rfl⟩, fun b hb => ?_, q⟩
    have e : b = s1.heap.objs.size := by simpa using hb
    subst e
    exact I1.fpOk (Nat.le_refl _) (I1.hok.fresh (Nat.le_refl _))
  · subst e
    cases r1
    obtain ⟨its, rv, p, hz⟩ := I1.list hq
    refine wpAny_pyIter_list p.isList ?_
    refine ⟨s1.heap.objs.size, [s1.heap.objs.size], _, _, H1, rfl, I1.kept (t' := s1.toks) fun b o e => Heap.get?_push_of_some _ e, turn_list a _, ⟨_, Heap.get?_push_size _ rfl, rfl, rfl⟩, fun b hb => ?_, q⟩
    have e : b = s1.heap.objs.size := by simpa using hb
    subst e
    exact I1.fpOk (Nat.le_refl _) (I1.hok.fresh (Nat.le_refl _))
/-- a new tuple is given -/
def YNew (R : Nat → List V → Prop) : Nat → Hp → V → Hp → Prop := fun i H v H' => ∃ T xs, v = .ref T ∧ H T = none ∧ Ex H H' ∧ H' T = some (.tup xs) ∧ R i xs
theorem walk_w {n : Nat} {R : Nat → List V → Prop} : Walk (Itw n R) n (fun _ => True) (YNew R) :=
  ⟨fun _ _ hi _ => hi, fun _ _ => rfl, fun _ _ _ _ _ _ ⟨T, xs, e, hT, hH, r⟩ => ⟨T, xs, e, hT, by rw [hH]; exact Ex.new hT, by rw [hH]; exact upd_same, r⟩⟩
inductive Tg (H : Hp) : V → String → Prop where
  | non : Tg H .non "NoneType"
  | bl (b : Bool) : Tg H (.bl b) "bool"
  | int (i : Int) : Tg H (.int i) "int"
  | str (x : Str) : Tg H (.str x) "str"
  | lst {a xs} (h : H a = some (.lst xs)) : Tg H (.ref a) "list"
  | tup {a xs} (h : Rd H a (.tup xs)) : Tg H (.ref a) "tuple"
  | dK {a kvs} (h : H a = some (.dK kvs)) : Tg H (.ref a) "dict"
def isiB (t n : String) : Bool := t == n || (t == "bool" && n == "int")
theorem tg_ty {K : PySem.W.Frag} {H : Hp} {x : V} {t : String} (h : Tg H x t) : TyX K H x (.type t) := by
  cases h with
  | non => exact .base .non
  | bl b => exact .base (.bl b)
  | int i => exact .base (.int i)
  | str i => exact .base (.str i)
  | lst h => exact .base (.lst h)
  | tup h =>
    rcases h with h | ⟨o, h⟩
    · exact .base (.tup h)
    · exact .fTuple h
  | dK h => exact .base (.dK h)
theorem kit_tab {K : PySem.W.Frag} : ∀ t ∈ ["NoneType", "bool", "int", "str", "list", "tuple", "dict"], ∀ n ∈ ["int", "bool", "str", "tuple", "list"], PySem.W.kitOne K (.type t) (.type n) = some (isiB t n) := by
  intro t ht n hn
  simp only [List.mem_cons, List.not_mem_nil, or_false] at ht hn
  rcases ht with rfl | rfl | rfl | rfl | rfl | rfl | rfl <;> rcases hn with rfl | rfl | rfl | rfl | rfl <;> exact kit_ty (by decide +kernel)
def rIsU : List V → Hp → VK → Prop := fun xs H Q => ∃ x t n, xs = [x, .ty n] ∧ Tg H x t ∧ n ∈ ["int", "bool", "str", "tuple", "list"] ∧ Q (.bl (isiB t n)) H
theorem call_isU : CallR X (.builtin "isinstance") rIsU := CallR.wk call_isi fun xs H Q ⟨x, t, n, e, h, hn, q⟩ =>
  ⟨x, .ty n, .type t, .type n, _, e, .ty n, tg_ty h, kit_tab t (by cases h <;> simp) n hn, q⟩
end
end Lt
namespace Lt
open PySem PySem.Spec PyProof.Rows L2 Evl
open SX (S)
theorem _root_.L2.Rd.ex {H H' : Hp} {a : Addr} {u : HO} (r : Rd H a u) (e : Ex H H') : Rd H' a u := r.elim (fun h => .inl (e _ _ h)) fun ⟨o, h⟩ => .inr ⟨o, e _ _ h⟩
mutual
inductive Rp (H : Hp) : V → PyData → Prop
  | non : Rp H .non .none
  | bl (b : Bool) : Rp H (.bl b) (.bool b)
  | int (i : Int) : Rp H (.int i) (.int i)
  | str (x : Str) : Rp H (.str x) (.str x)
  | lst {a : Addr} {xs : List V} {ds : List PyData} : H a = some (.lst xs) → RpAll H xs ds → Rp H (.ref a) (.list ds)
  | tup {a : Addr} {xs : List V} {ds : List PyData} : Rd H a (.tup xs) → RpAll H xs ds → Rp H (.ref a) (.tuple ds)
inductive RpAll (H : Hp) : List V → List PyData → Prop
  | nil : RpAll H [] []
  | cons {v : V} {vs : List V} {d : PyData} {ds : List PyData} : Rp H v d → RpAll H vs ds → RpAll H (v :: vs) (d :: ds)
end
mutual
theorem Rp.dp {K : PySem.W.Frag} {H : Hp} : ∀ {d : PyData} {v : V}, Rp H v d → Dp K H v d
  | .none, _, h => by cases h; exact .non
  | .bool b, _, h => by cases h; exact .bl b
  | .int b, _, h => by cases h; exact .int b
  | .str b, _, h => by cases h; exact .str b
  | .list ds, _, h => by
    cases h with
    | lst h1 h2 => exact .lst (SqL.of h1) (RpAll.dp h2)
  | .tuple ds, _, h => by
    cases h with
    | tup h1 h2 => exact .tup (.inl h1) (RpAll.dp h2)
  | .dict _, _, h => by cases h
theorem RpAll.dp {K : PySem.W.Frag} {H : Hp} : ∀ {ds : List PyData} {vs : List V}, RpAll H vs ds → DpAll K H vs ds
  | [], _, h => by cases h; exact .nil
  | d :: ds, _, h => by
    cases h with
    | cons h1 h2 => exact .cons (Rp.dp h1) (RpAll.dp h2)
end
mutual
theorem Rp.ex {H H' : Hp} (e : Ex H H') : ∀ {d : PyData} {v : V}, Rp H v d → Rp H' v d
  | .none, _, h => by cases h; exact .non
  | .bool b, _, h => by cases h; exact .bl b
  | .int b, _, h => by cases h; exact .int b
  | .str b, _, h => by cases h; exact .str b
  | .list ds, _, h => by
    cases h with
    | lst h1 h2 => exact .lst (e _ _ h1) (RpAll.ex e h2)
  | .tuple ds, _, h => by
    cases h with
    | tup h1 h2 => exact .tup (h1.ex e) (RpAll.ex e h2)
  | .dict _, _, h => by cases h
theorem RpAll.ex {H H' : Hp} (e : Ex H H') : ∀ {ds : List PyData} {vs : List V}, RpAll H vs ds → RpAll H' vs ds
  | [], _, h => by cases h; exact .nil
  | d :: ds, _, h => by
    cases h with
    | cons h1 h2 => exact .cons (Rp.ex e h1) (RpAll.ex e h2)
end
mutual
def flatD : PyData → Bool
  | .list _ => false
  | .tuple ds => flatDs ds
  | .dict _ => false
  | _ => true
def flatDs : List PyData → Bool
  | [] => true
  | d :: ds => flatD d && flatDs ds
end
mutual
theorem Rp.exT {H H' : Hp} (e : ∀ b xs, Rd H b (.tup xs) → Rd H' b (.tup xs)) : ∀ {d : PyData} {v : V}, flatD d = true → Rp H v d → Rp H' v d
  | .none, _, _, h => by cases h; exact .non
  | .bool b, _, _, h => by cases h; exact .bl b
  | .int b, _, _, h => by cases h; exact .int b
  | .str b, _, _, h => by cases h; exact .str b
  | .list ds, _, f, h => by simp [flatD] at f
  | .tuple ds, _, f, h => by
    cases h with
    | tup h1 h2 => exact .tup (e _ _ h1) (RpAll.exT e (by simpa [flatD] using f) h2)
  | .dict _, _, _, h => by cases h
theorem RpAll.exT {H H' : Hp} (e : ∀ b xs, Rd H b (.tup xs) → Rd H' b (.tup xs)) : ∀ {ds : List PyData} {vs : List V}, flatDs ds = true → RpAll H vs ds → RpAll H' vs ds
  | [], _, _, h => by cases h; exact .nil
  | d :: ds, _, f, h => by
    cases h with
    | cons h1 h2 =>
      have f' : flatD d = true ∧ flatDs ds = true := by simpa [flatDs] using f
      exact .cons (Rp.exT e f'.1 h1) (RpAll.exT e f'.2 h2)
end
section
variable {H H' : Hp} {vs ws : List V} {ds es : List PyData} {v : V} {d : PyData}
theorem RpAll.length (h : RpAll H vs ds) : vs.length = ds.length := by
  induction ds generalizing vs with
  | nil => cases h; rfl
  | cons d ds ih => cases h with
    | cons h1 h2 => simp [ih h2]
theorem RpAll.append (h : RpAll H vs ds) (h' : RpAll H ws es) : RpAll H (vs ++ ws) (ds ++ es) := by
  induction ds generalizing vs with
  | nil => cases h; exact h'
  | cons d ds ih => cases h with
    | cons h1 h2 => exact .cons h1 (ih h2)
theorem RpAll.one (h : Rp H v d) : RpAll H [v] [d] := .cons h .nil
theorem RpAll.get {i : Nat} (h : RpAll H vs ds) (hd : ds[i]? = some d) : ∃ v, vs[i]? = some v ∧ Rp H v d := by
  induction ds generalizing vs i with
  | nil => simp at hd
  | cons e ds ih => cases h with
    | cons h1 h2 =>
      cases i with
      | zero => simp at hd; subst hd; exact ⟨_, rfl, h1⟩
      | succ i =>
        obtain ⟨v, hv, r⟩ := ih h2 (by simpa using hd)
        exact ⟨v, by simpa using hv, r⟩
theorem RpAll.get' {i : Nat} (h : RpAll H vs ds) (hv : vs[i]? = some v) : ∃ d, ds[i]? = some d ∧ Rp H v d := by
  have hi := (List.getElem?_eq_some_iff.mp hv).1
  rw [h.length] at hi
  obtain ⟨w, hw, r⟩ := h.get (List.getElem?_eq_getElem hi)
  rw [hv] at hw; cases hw
  exact ⟨_, List.getElem?_eq_getElem hi, r⟩
theorem rp_str {x : Str} (h : Rp H v (.str x)) : v = .str x := by cases h; rfl
theorem rp_int {i : Int} (h : Rp H v (.int i)) : v = .int i := by cases h; rfl
theorem rp_bool {b : Bool} (h : Rp H v (.bool b)) : v = .bl b := by cases h; rfl
theorem rpall_nil (h : RpAll H vs []) : vs = [] := by cases h; rfl
theorem rpall_cons (h : RpAll H vs (d :: ds)) : ∃ v ws, vs = v :: ws ∧ Rp H v d ∧ RpAll H ws ds := by
  cases h with
  | cons h1 h2 => exact ⟨_, _, rfl, h1, h2⟩
theorem rpall_ints {H : Hp} : ∀ {l : List Int} {vs : List V}, RpAll H vs (l.map .int) → vs = l.map .int
  | [], _, h => rpall_nil h
  | x :: l, _, h => by
    obtain ⟨v, ws, rfl, h1, h2⟩ := rpall_cons h
    rw [rp_int h1, rpall_ints h2]; rfl
end
structure DiceOk (xs : List Int) : Prop where
  two : 2 ≤ xs.length
  most : xs.length ≤ 1000
  pos : ∀ x ∈ xs, 0 ≤ x
  seed : ∀ x, xs[0]? = some x → x < 2147483647
def DiceO (a : Addr) : HO := .ext fun h => ∃ (xs : List Int) (its : List Value) (n : Nat), DiceOk xs ∧ Vals (xs.map V.int) its ∧ h.get? a = some { cls := .type "list", data := .seq its.toArray n }
section
variable {X : Cx} {pins : List (Addr × Obj)} {σ : L2.St} {H : Hp} {s : Shared}
theorem Inv.openD {a : Addr} (I : L2.Inv X pins σ H s) (h : H a = some (DiceO a)) : ∃ xs, DiceOk xs ∧ L2.Inv X pins σ (upd H a (.lst (xs.map V.int))) s := by
  obtain ⟨⟨xs, its, n, ok, r, e⟩, _, _⟩ := I.hok a _ h
  have hl : (xs.map V.int).length ≤ sizeLine := by rw [List.length_map]; exact Nat.le_trans ok.most (by decide)
  exact ⟨xs, ok, I.write (t' := s.toks) (h' := s.heap) (e := a) (by rw [h]; exact trivial) (.inl rfl) (fun b u _ q => q) ⟨_, e⟩ ⟨hl, its, n, r, e⟩⟩
theorem Inv.closeD {a : Addr} {xs : List Int} (I : L2.Inv X pins σ H s) (h : H a = some (.lst (xs.map V.int))) (ok : DiceOk xs) : L2.Inv X pins σ (upd H a (DiceO a)) s := by
  obtain ⟨hl, its, n, r, e⟩ := I.hok a _ h
  exact I.write (t' := s.toks) (h' := s.heap) (e := a) (by rw [h]; exact trivial) (.inl rfl) (fun b u _ q => q) ⟨_, e⟩
    ⟨⟨xs, its, n, ok, r, e⟩, ⟨_, e⟩, fun h1 h2 ⟨xs, its, n, ok, r, e⟩ k => ⟨xs, its, n, ok, r, k _ e⟩⟩
/-- within, it is read and written as a list -/
def tOpen (t : TS) : TS := fun D σ H => ∃ a, H a = some (DiceO a) ∧ ∀ xs, DiceOk xs → t D σ (upd H a (.lst (xs.map V.int)))
theorem pss_open {sts : List Stmt} {t : TS} (h : PSs X sts t) : PSs X sts (tOpen t) := by
  refine ⟨fun pins s σ H D I q => ?_⟩
  obtain ⟨a, ha, q⟩ := q
  obtain ⟨xs, ok, J⟩ := Inv.openD I ha
  exact h.run pins s σ _ D J (q xs ok)
/-- what is wanted of a value and a heap in which it stands as a list -/
def closeK (Q : VK) : VK := fun v H' => ∃ a xs, H' a = some (.lst (xs.map V.int)) ∧ DiceOk xs ∧ Q v (upd H' a (DiceO a))
def tClose (t : TS) : TS := fun D σ H => t { D with nx := fun _ _ => False, rt := closeK D.rt, bk := fun _ _ => False, ct := fun _ _ => False } σ H
theorem pss_close {sts : List Stmt} {t : TS} (h : PSs X sts t) : PSs X sts (tClose t) := by
  refine ⟨fun pins s σ H D I q => ?_⟩
  refine thn (h.run pins s σ H _ I q) fun f s1 z => ?_
  cases f with
  | next => obtain ⟨_, _, _, z⟩ := z; exact z.elim
  | brk => obtain ⟨_, _, _, z⟩ := z; exact z.elim
  | cont => obtain ⟨_, _, _, z⟩ := z; exact z.elim
  | ret u =>
    obtain ⟨v, σ', H', I', r, a, xs, ha, ok, q⟩ := z
    exact ⟨v, σ', _, Inv.closeD I' ha ok, r, q⟩
end
structure Has (P : Program) (w : World) (K : PySem.W.Frag) (mg : Str → Option Value) (base : Heap) (CX : CXT) (k : Nat) (x : Str) (ps : List Str) (sp : Sp) : Prop where
  ex : ∃ (f : Addr) (fd : FuncData), mg x = some (.ref f) ∧ PySem.W.keepIn K (.ref f) = true ∧ Binds K fd ps [] ∧ FnOk P w K mg base CX k f fd ps sp
end Lt
namespace Lt
open PySem PySem.Spec PyProof.Rows L2 Evl
open SX (S)
/-- list(text), list(list or tuple) -/
def rListU (K : PySem.W.Frag) : List V → Hp → VK → Prop := fun xs H Q => (∃ l, xs = [Tx l] ∧ l.length ≤ sizeLine ∧ New H (.lst (l.map fun c => Tx [c])) Q) ∨
  (∃ p ys, xs = [.ref p] ∧ (SqL K H p ys ∨ SqT K H p ys) ∧ New H (.lst ys) Q)
theorem signs_vals {l : List Nat} {acc : Array Value} (h : ItemsOf (SignAt (S l)) acc l.length) : Vals (l.map fun c => Tx [c]) acc.toList := by
  have e : acc.toList.length = l.length := by rw [Array.length_toList]; exact h.1
  have q := vals_of_get acc.toList (fun i => Tx [l.getD i 0]) fun j u hj => by
    obtain ⟨c, u', hc, rfl⟩ := h.2 j u (by rw [← hj, Array.getElem?_toList])
    have hc' : l[j]? = some c := by simpa [S] using hc
    refine ⟨u', ?_⟩
    rw [List.getD_eq_getElem?_getD, hc']
    rfl
  have e2 : (List.range acc.toList.length).map (fun i => Tx [l.getD i 0]) = l.map fun c => Tx [c] := by
    rw [e]
    refine List.ext_getElem (by simp) fun i h1 h2 => ?_
    simp at h2
    simp [List.getD_eq_getElem?_getD, h2]
  rw [← e2]
  exact q
theorem call_listS {X : Cx} (hc : X.calm = true) : CallR X (.type "list") (fun xs H Q => ∃ l, xs = [Tx l] ∧ l.length ≤ sizeLine ∧ ∀ p, H p = none → Q (.ref p) (upd H p (.lst (l.map fun c => Tx [c])))) := by
  intro pins s σ H xs us Q I r h
  obtain ⟨l, rfl, hl, q⟩ := h
  obtain ⟨u, rfl, t, rfl⟩ := vals1 r
  have hsz : (S l).cps.size ≤ sizeLine := by rw [S_size]; exact hl
  refine call_list_str (I.ok.hd hc) (S l) t (fun h' tk acc c' hk e hi => ?_) hsz
  rw [S_size] at hi
  refine ⟨.ref s.heap.objs.size, upd H s.heap.objs.size (.lst (l.map fun c => Tx [c])), I.laid hk (Nat.le_refl _) (show ObjOk X.prog X.w _ _ _ (.lst (l.map fun c => Tx [c])) from ⟨?_, acc.toList, c', signs_vals hi, ?_⟩), rfl, q _ (I.hok.fresh (Nat.le_refl _))⟩
  · rw [List.length_map]; exact hl
  · rw [Array.toArray_toList]; exact e
theorem call_listU {X : Cx} (hc : X.calm = true) : CallR X (.type "list") (rListU X.K) := CallR.wk (CallR.or (call_listS hc) call_list_of) fun xs H Q h => by
  rcases h with ⟨l, e, hl, q⟩ | ⟨p, ys, e, h, q⟩
  · exact .inl ⟨l, e, hl, q.upd⟩
  · exact .inr ⟨p, ys, e, h, q.upd⟩
/-- x.join(list or tuple of texts) -/
def rJoinX (K : PySem.W.Frag) : V → List V → Hp → VK → Prop := fun x xs H Q => ∃ a p, ∃ ys : List (List Nat), x = Tx a ∧ xs = [.ref p] ∧ (SqL K H p (ys.map fun l => Tx l) ∨ SqT K H p (ys.map fun l => Tx l)) ∧
  (ys.map (·.length)).sum + ys.length * a.length ≤ 16777216 ∧ Q (Tx (TL.joinL a ys)) H
theorem MtR.wk {X : Cx} {id : String} {r r' : V → List V → Hp → VK → Prop} (h : MtR X id r) (w : ∀ x xs H Q, r' x xs H Q → r x xs H Q) : MtR X id r' := by
  intro pins s σ H x xs v us Q I rx rr q
  exact h pins s σ H x xs v us Q I rx rr (w _ _ _ _ q)
theorem mt_joinX {X : Cx} : MtR X "str.join" (rJoinX X.K) := MtR.wk mt_join fun x xs H Q ⟨a, p, ys, ex, exs, hq, hz, q⟩ => by
  have e : ys.map (fun l => Tx l) = (ys.map S).map V.str := by rw [List.map_map]; rfl
  rw [e] at hq
  refine ⟨S a, p, ys.map S, ex, exs, hq, ?_, ?_⟩
  · rw [SX.lens, List.length_map, SX.S_len]; exact hz
  · rw [SX.join_S]; exact q
/-- a constant of the module -/
theorem pe_gc {X : Cx} {x : Str} {v : V} {pos : Pos} (hg : Gl X x) (hm : ∃ u, X.mg x = some u ∧ RelV v u) (hd : (x == ("__debug__" : Str)) = false := by decide) : PE X (.Name x pos) (tC v) := by
  obtain ⟨u, hu, r⟩ := hm
  exact pe_glob hg hu r hd
section
variable {σ : L2.St} {H H' : Hp} {D : Ends} {te ta tb : TE} {tt : TT} {t u : TS} {Q : VK} {K : PySem.W.Frag} {v x y : V} {i j : Int} {a b l : List Nat} {p : Addr} {xs ys : List V}
theorem w_nx {f : L2.St → Hp → Prop} {r : VK} {b c : L2.St → Hp → Prop} (h : f σ H) : Ends.nx ⟨f, r, b, c⟩ σ H := h
theorem w_rt {f : L2.St → Hp → Prop} {r : VK} {b c : L2.St → Hp → Prop} (h : r v H) : Ends.rt ⟨f, r, b, c⟩ v H := h
theorem w_bk {f : L2.St → Hp → Prop} {r : VK} {b c : L2.St → Hp → Prop} (h : b σ H) : Ends.bk ⟨f, r, b, c⟩ σ H := h
theorem w_ct {f : L2.St → Hp → Prop} {r : VK} {b c : L2.St → Hp → Prop} (h : c σ H) : Ends.ct ⟨f, r, b, c⟩ σ H := h
theorem w_seq (h : t { D with nx := u D } σ H) : tSeq t u D σ H := h
theorem w_next (h : D.nx σ H) : tNext D σ H := h
theorem w_asg {g : TG} (h : te σ H fun x H1 => g x σ H1 D.nx) : tAsg te g D σ H := h
theorem w_name {k : Nat} {Q : L2.St → Hp → Prop} (h : Q (σ.set k (some v)) H) : gName k v σ H Q := h
theorem w_ret (h : te σ H D.rt) : tRet te D σ H := h
theorem w_retN (h : D.rt .non H) : tRetN D σ H := h
theorem w_drop (h : te σ H fun _ H1 => D.nx σ H1) : tDrop te D σ H := h
theorem w_break (h : D.bk σ H) : tBreak D σ H := h
theorem w_cont (h : D.ct σ H) : tCont D σ H := h
theorem w_ifS (h : tt σ H fun b H1 => if b = true then t D σ H1 else u D σ H1) : tIfS tt t u D σ H := h
theorem w_aug {k : Nat} {ti : TIp} {x : V} (hx : σ[k]? = some (some x)) (h : te σ H fun y H1 => ti x y H1 fun z H2 => D.nx (σ.set k (some z)) H2) : tAug k te ti D σ H := ⟨x, hx, h⟩
theorem w_par2 {k m : Nat} {ta : TA} (h : ta σ H fun vs H1 => ∃ v w, vs = [v, w] ∧ D.nx ((σ.set k (some v)).set m (some w)) H1) : tPar k m ta D σ H := h
theorem w_two {v w : V} {P : V → V → Prop} (h : P v w) : ∃ v' w', [v, w] = [v', w'] ∧ P v' w' := ⟨v, w, rfl, h⟩
theorem w_three {u v w : V} {P : V → V → V → Prop} (h : P u v w) : ∃ u' v' w', [u, v, w] = [u', v', w'] ∧ P u' v' w' := ⟨u, v, w, rfl, h⟩
theorem w_par3 {k m n : Nat} {ta : TA} (h : ta σ H fun vs H1 => ∃ u v w, vs = [u, v, w] ∧ D.nx (((σ.set k (some u)).set m (some v)).set n (some w)) H1) : tPar3 k m n ta D σ H := h
/-- a, b = a tuple's items -/
theorem w_gtup {n : Nat} {tg : TGs} {Q : L2.St → Hp → Prop} (h : Rd H p (.tup xs)) (hn : xs.length = n) (k : tg xs σ H Q) : gTup K n tg (.ref p) σ H Q := ⟨p, xs, rfl, (.inl h), hn, k⟩
theorem w_gcons {tg : TG} {tgs : TGs} {Q : L2.St → Hp → Prop} (h : tg v σ H fun σ' H' => tgs xs σ' H' Q) : gCons tg tgs (v :: xs) σ H Q := ⟨v, xs, rfl, h⟩
theorem w_gnil {Q : L2.St → Hp → Prop} (h : Q σ H) : gNil [] σ H Q := ⟨rfl, h⟩
theorem w_var {k : Nat} (hx : σ[k]? = some (some v)) (h : Q v H) : tVar k σ H Q := ⟨v, hx, h⟩
theorem w_c (h : Q v H) : tC v σ H Q := h
theorem w_op {r : R2} (h : ta σ H fun x H1 => tb σ H1 fun y H2 => r x y H2 Q) : tOp r ta tb σ H Q := h
theorem w_un {r : V → Hp → VK → Prop} (h : ta σ H fun x H1 => r x H1 Q) : tUn r ta σ H Q := h
theorem w_neg (h : Q (.int (-i)) H) : rU (fun i => .int (-i)) (.int i) H Q := ⟨i, rfl, h⟩
theorem w_cb {r : List V → Hp → VK → Prop} {ta : TA} (h : ta σ H fun vs H1 => r vs H1 Q) : tCB r ta σ H Q := h
theorem w_call {sp : Sp} {dvs : List V} {E : XK} {ta : TA} (h : ta σ H fun vs H1 => sp (vs ++ dvs) H1 Q E) : tCall sp dvs E ta σ H Q := h
theorem w_cons {tr : TA} {Q : List V → Hp → Prop} (h : te σ H fun x H1 => tr σ H1 fun xs H2 => Q (x :: xs) H2) : tCons te tr σ H Q := h
theorem w_nil {Q : List V → Hp → Prop} (h : Q [] H) : tNil σ H Q := h
theorem w_if (h : tt σ H fun c H1 => if c = true then ta σ H1 Q else tb σ H1 Q) : tIf tt ta tb σ H Q := h
theorem w_sl {r : V → Option Int → Option Int → Hp → VK → Prop} {tl th : TO} (h : te σ H fun x H1 => tl σ H1 fun l H2 => th σ H2 fun u H3 => r x l u H3 Q) : tSl r te tl th σ H Q := h
theorem w_part {Q : Option Int → Hp → Prop} (h : te σ H fun x H1 => ∃ i, x = .int i ∧ Q (some i) H1) : tPart te σ H Q := h
theorem w_intk {P : Int → Prop} (h : P i) : ∃ i', V.int i = V.int i' ∧ P i' := ⟨i, rfl, h⟩
theorem w_noPart {Q : Option Int → Hp → Prop} (h : Q none H) : tNoPart σ H Q := h
theorem w_revX (h : te σ H fun x H1 => ∃ l, x = Tx l ∧ l.length ≤ sizeLine ∧ Q (Tx l.reverse) H1) : tRevX te σ H Q := h
theorem w_revX2 {P : List Nat → Prop} (hl : l.length ≤ sizeLine) (h : P l) : ∃ l', Tx l = Tx l' ∧ l'.length ≤ sizeLine ∧ P l' := ⟨l, rfl, hl, h⟩
/-- a new tuple, a new list -/
theorem w_tup {ta : TA} (h : ta σ H fun xs H1 => xs.length ≤ sizeLine ∧ New H1 (.tup xs) Q) : tTupX ta σ H Q := h
theorem w_lst {ta : TA} (h : ta σ H fun xs H1 => xs.length ≤ sizeLine ∧ New H1 (.lst xs) Q) : tLstX ta σ H Q := h
theorem w_new {o : HO} {n : Nat} (hn : n ≤ sizeLine) (h : ∀ (p : Addr) (H2 : Hp), H p = none → Ex H H2 → H2 p = some o → Q (.ref p) H2) : n ≤ sizeLine ∧ New H o Q := ⟨hn, h⟩
theorem w_newN {o : HO} (h : ∀ (p : Addr) (H2 : Hp), H p = none → Ex H H2 → H2 p = some o → Q (.ref p) H2) : New H o Q := h
theorem w_test {Q : Bool → Hp → Prop} (h : te σ H fun x H1 => ∃ k, x = .bl k ∧ Q k H1) : tTest te σ H Q := h
theorem w_tB {Q : Bool → Hp → Prop} (h : te σ H fun x H1 => ∃ k, x = .bl k ∧ Q k H1) : tB te σ H Q := h
theorem w_blk {P : Bool → Prop} {b : Bool} (h : P b) : ∃ k, V.bl b = V.bl k ∧ P k := ⟨b, rfl, h⟩
theorem w_and {tu : TT} {Q : Bool → Hp → Prop} (h : tt σ H fun c H1 => if c = true then tu σ H1 Q else Q false H1) : tAnd tt tu σ H Q := h
theorem w_or {tu : TT} {Q : Bool → Hp → Prop} (h : tt σ H fun c H1 => if c = true then Q true H1 else tu σ H1 Q) : tOr tt tu σ H Q := h
theorem w_not {Q : Bool → Hp → Prop} (h : tt σ H fun c H1 => Q (!c) H1) : tNot tt σ H Q := h
theorem w_andV (h : ta σ H fun x H1 => ∃ c, x = .bl c ∧ if c = true then tb σ H1 Q else Q (.bl false) H1) : tAndV ta tb σ H Q := h
theorem w_orV (h : ta σ H fun x H1 => ∃ c, x = .bl c ∧ if c = true then Q (.bl true) H1 else tb σ H1 Q) : tOrV ta tb σ H Q := h
theorem w_notV (h : ta σ H fun x H1 => ∃ c, x = .bl c ∧ Q (.bl (!c)) H1) : tNotV ta σ H Q := h
theorem w_chain {r r' : R2} {tc : TE} (h : ta σ H fun x H1 => tb σ H1 fun y H2 => r x y H2 fun z H3 => ∃ k, z = .bl k ∧ (if k = true then tc σ H3 fun w' H4 => r' y w' H4 Q else Q (.bl false) H3)) : tChain r r' ta tb tc σ H Q := h
section
variable {A B P : Prop} [Decidable P] {c d : Bool}
theorem w_iteD (h1 : P → A) (h2 : ¬ P → B) : if decide P = true then A else B := by
  by_cases h : P
  · simp [h]; exact h1 h
  · simp [h]; exact h2 h
theorem w_iteN (h1 : ¬ P → A) (h2 : P → B) : if (!decide P) = true then A else B := by
  by_cases h : P
  · simp [h]; exact h2 h
  · simp [h]; exact h1 h
theorem w_iteB (h1 : c = true → A) (h2 : c = false → B) : if c = true then A else B := by
  cases c
  · simp; exact h2 rfl
  · simp; exact h1 rfl
theorem w_iteT (h : c = true) (k : A) : if c = true then A else B := by rw [if_pos h]; exact k
theorem w_iteF (h : c = false) (k : B) : if c = true then A else B := by rw [if_neg (by rw [h]; decide)]; exact k
end
theorem w_addI (h : Q (.int (i + j)) H) : rAddU (.int i) (.int j) H Q := .inl ⟨i, j, rfl, rfl, h⟩
theorem w_addT (hl : a.length + b.length ≤ sizeLine) (h : Q (Tx (a ++ b)) H) : rAddU (Tx a) (Tx b) H Q := .inr (.inl ⟨a, b, rfl, rfl, hl, h⟩)
theorem w_addL {q : Addr} (h1 : H p = some (.lst xs)) (h2 : H q = some (.lst ys)) (hl : xs.length + ys.length ≤ sizeLine) (h : New H (.lst (xs ++ ys)) Q) : rAddU (.ref p) (.ref q) H Q :=
  .inr (.inr (.inl ⟨p, q, xs, ys, rfl, rfl, h1, h2, hl, h⟩))
theorem w_addU {q : Addr} (h1 : H p = some (.tup xs)) (h2 : H q = some (.tup ys)) (hl : xs.length + ys.length ≤ sizeLine) (h : ∀ (p : Addr) (H2 : Hp), Ex H H2 → H2 p = some (.tup (xs ++ ys)) → Q (.ref p) H2) : rAddU (.ref p) (.ref q) H Q :=
  .inr (.inr (.inr ⟨p, q, xs, ys, rfl, rfl, h1, h2, hl, h⟩))
theorem w_I0 {g : Int → Int → V} (h : Q (g i j) H) : rI0 g (.int i) (.int j) H Q := ⟨i, j, rfl, rfl, h⟩
theorem w_I {C : Int → Int → Prop} {g : Int → Int → V} (hc : C i j) (h : Q (g i j) H) : rI C g (.int i) (.int j) H Q := ⟨i, j, rfl, rfl, hc, h⟩
theorem w_ltI (h : Q (.bl (decide (i < j))) H) : rLtU (.int i) (.int j) H Q := .inl ⟨i, j, rfl, rfl, h⟩
theorem w_ltT (h : Q (.bl (decide (a < b))) H) : rLtU (Tx a) (Tx b) H Q := .inr ⟨a, b, rfl, rfl, h⟩
theorem w_gtI (h : Q (.bl (decide (j < i))) H) : rGtU (.int i) (.int j) H Q := .inl ⟨i, j, rfl, rfl, h⟩
theorem w_gtT (h : Q (.bl (decide (b < a))) H) : rGtU (Tx a) (Tx b) H Q := .inr ⟨a, b, rfl, rfl, h⟩
theorem w_leI (h : Q (.bl (decide (i ≤ j))) H) : rLeU (.int i) (.int j) H Q := .inl ⟨i, j, rfl, rfl, h⟩
theorem w_leT (h : Q (.bl (!decide (b < a))) H) : rLeU (Tx a) (Tx b) H Q := .inr ⟨a, b, rfl, rfl, h⟩
theorem w_geI (h : Q (.bl (decide (j ≤ i))) H) : rGeU (.int i) (.int j) H Q := .inl ⟨i, j, rfl, rfl, h⟩
theorem w_geT (h : Q (.bl (!decide (a < b))) H) : rGeU (Tx a) (Tx b) H Q := .inr ⟨a, b, rfl, rfl, h⟩
theorem w_eqI (h : Q (.bl (decide (i = j))) H) : rEqU K (.int i) (.int j) H Q := .inl ⟨i, j, rfl, rfl, h⟩
theorem w_eqT (h : Q (.bl (decide (a = b))) H) : rEqU K (Tx a) (Tx b) H Q := .inr (.inl ⟨a, b, rfl, rfl, h⟩)
theorem w_eqC {c d : Nat} (h : Q (.bl (decide (c = d))) H) : rEqU K (Tx [c]) (Tx [d]) H Q := w_eqT (by
  have e : decide ([c] = [d]) = decide (c = d) := by by_cases q : c = d <;> simp [q]
  rw [e]; exact h)
theorem w_eqS (hs : scal x y = true) (h : Q (.bl (decide (x = y))) H) : rEqU K x y H Q := .inr (.inr (.inl ⟨hs, h⟩))
theorem w_eqD {d e : PyData} (h1 : Rp H x d) (h2 : Rp H y e) (s1 : SeqAt.shaped d = true) (s2 : SeqAt.shaped e = true) (h : Q (.bl (PyData.eqv d e)) H) : rEqU K x y H Q := .inr (.inr (.inr ⟨d, e, h1.dp, h2.dp, s1, s2, h⟩))
theorem w_neI (h : Q (.bl (!decide (i = j))) H) : rNeU K (.int i) (.int j) H Q := .inl ⟨i, j, rfl, rfl, h⟩
theorem w_neT (h : Q (.bl (!decide (a = b))) H) : rNeU K (Tx a) (Tx b) H Q := .inr (.inl ⟨a, b, rfl, rfl, h⟩)
theorem w_neC {c d : Nat} (h : Q (.bl (!decide (c = d))) H) : rNeU K (Tx [c]) (Tx [d]) H Q := w_neT (by
  have e : decide ([c] = [d]) = decide (c = d) := by by_cases q : c = d <;> simp [q]
  rw [e]; exact h)
theorem lt_one (c d : Nat) : decide ([c] < [d]) = decide (c < d) := by
  have e : ([c] < [d]) ↔ c < d := by
    rw [List.cons_lt_cons_iff]
    simp
  simp only [e]
theorem w_ltC {c d : Nat} (h : Q (.bl (decide (c < d))) H) : rLtU (Tx [c]) (Tx [d]) H Q := w_ltT (by rw [lt_one]; exact h)
theorem w_gtC {c d : Nat} (h : Q (.bl (decide (d < c))) H) : rGtU (Tx [c]) (Tx [d]) H Q := w_gtT (by rw [lt_one]; exact h)
theorem w_leC {c d : Nat} (h : Q (.bl (decide (c ≤ d))) H) : rLeU (Tx [c]) (Tx [d]) H Q := w_leT (by
  have e : (!decide (d < c)) = decide (c ≤ d) := by by_cases q : d < c <;> simp [q] <;> omega
  rw [lt_one, e]; exact h)
theorem w_geC {c d : Nat} (h : Q (.bl (decide (d ≤ c))) H) : rGeU (Tx [c]) (Tx [d]) H Q := w_geT (by
  have e : (!decide (c < d)) = decide (d ≤ c) := by by_cases q : c < d <;> simp [q] <;> omega
  rw [lt_one, e]; exact h)
theorem w_neS (hs : scal x y = true) (h : Q (.bl (!decide (x = y))) H) : rNeU K x y H Q := .inr (.inr (.inl ⟨hs, h⟩))
theorem w_neD {d e : PyData} (h1 : Rp H x d) (h2 : Rp H y e) (s1 : SeqAt.shaped d = true) (s2 : SeqAt.shaped e = true) (h : Q (.bl (!PyData.eqv d e)) H) : rNeU K x y H Q := .inr (.inr (.inr ⟨d, e, h1.dp, h2.dp, s1, s2, h⟩))
theorem w_inS {c : Nat} (h : Q (.bl (decide (c ∈ l))) H) : rInU K (Tx [c]) (Tx l) H Q := .inl ⟨c, l, rfl, rfl, h⟩
theorem w_notInS {c : Nat} (h : Q (.bl (!decide (c ∈ l))) H) : rNotInU K (Tx [c]) (Tx l) H Q := .inl ⟨c, l, rfl, rfl, h⟩
theorem w_ixX (hl : l.length ≤ sizeLine) (h0 : 0 ≤ i) (h1 : i < (l.length : Int)) (h : ∀ c, l[i.toNat]? = some c → Q (Tx [c]) H) : rIxU K (Tx l) (.int i) H Q := by
  obtain ⟨k, rfl⟩ : ∃ k : Nat, i = k := ⟨i.toNat, by omega⟩
  have hk : k < l.length := by omega
  exact .inl ⟨l, _, l[k], rfl, rfl, hl, atI_nat (by simp [hk]), h _ (by simp [hk])⟩
theorem w_ixL (hp : H p = some (.lst xs)) (h0 : 0 ≤ i) (h1 : i < (xs.length : Int)) (h : ∀ v, xs[i.toNat]? = some v → Q v H) : rIxU K (.ref p) (.int i) H Q := by
  obtain ⟨k, rfl⟩ : ∃ k : Nat, i = k := ⟨i.toNat, by omega⟩
  have hk : k < xs.length := by omega
  exact .inr (.inr ⟨p, xs, _, xs[k], rfl, rfl, SqL.of hp, atI_nat (by simp [hk]), h _ (by simp [hk])⟩)
theorem w_ixU (hp : Rd H p (.tup xs)) (h0 : 0 ≤ i) (h1 : i < (xs.length : Int)) (h : ∀ v, xs[i.toNat]? = some v → Q v H) : rIxU K (.ref p) (.int i) H Q := by
  obtain ⟨k, rfl⟩ : ∃ k : Nat, i = k := ⟨i.toNat, by omega⟩
  have hk : k < xs.length := by omega
  exact .inr (.inl ⟨p, xs, _, xs[k], rfl, rfl, (.inl hp), atI_nat (by simp [hk]), h _ (by simp [hk])⟩)
theorem w_slX {lo hi : Option Int} (hl : l.length ≤ sizeLine) (h : Q (Tx (cutL l lo hi)) H) : rSlU (Tx l) lo hi H Q := .inl ⟨l, rfl, hl, h⟩
theorem w_slL {lo hi : Option Int} (hp : H p = some (.lst xs)) (h : New H (.lst (cutL xs lo hi)) Q) : rSlU (.ref p) lo hi H Q := .inr (.inl ⟨p, xs, rfl, hp, h⟩)
theorem w_slU {lo hi : Option Int} (hp : H p = some (.tup xs)) (h : ∀ (p : Addr) (H2 : Hp), Ex H H2 → H2 p = some (.tup (cutL xs lo hi)) → Q (.ref p) H2) : rSlU (.ref p) lo hi H Q := .inr (.inr ⟨p, xs, rfl, hp, h⟩)
theorem w_lenX (hl : l.length ≤ sizeLine) (h : Q (.int (l.length : Int)) H) : rLenU K [Tx l] H Q := .inl ⟨l, rfl, hl, h⟩
theorem w_lenL (hp : H p = some (.lst xs)) (h : Q (.int (xs.length : Int)) H) : rLenU K [.ref p] H Q := .inr ⟨p, xs, rfl, .inl (SqL.of hp), h⟩
theorem w_lenU (hp : Rd H p (.tup xs)) (h : Q (.int (xs.length : Int)) H) : rLenU K [.ref p] H Q := .inr ⟨p, xs, rfl, .inr ((.inl hp)), h⟩
theorem w_listX (hl : l.length ≤ sizeLine) (h : New H (.lst (l.map fun c => Tx [c])) Q) : rListU K [Tx l] H Q := .inl ⟨l, rfl, hl, h⟩
theorem w_listL (hp : H p = some (.lst xs)) (h : New H (.lst xs) Q) : rListU K [.ref p] H Q := .inr ⟨p, xs, rfl, .inl (SqL.of hp), h⟩
theorem w_listU (hp : Rd H p (.tup xs)) (h : New H (.lst xs) Q) : rListU K [.ref p] H Q := .inr ⟨p, xs, rfl, .inr ((.inl hp)), h⟩
theorem w_all {bs : List Bool} (hp : H p = some (.lst (bs.map V.bl))) (h : Q (.bl (bs.all id)) H) : rAll K [.ref p] H Q := ⟨p, bs, rfl, SqL.of hp, h⟩
theorem w_is {n t : String} (ht : Tg H x t) (hn : n ∈ ["int", "bool", "str", "tuple", "list"]) (h : Q (.bl (isiB t n)) H) : rIsU [x, .ty n] H Q := ⟨x, t, n, rfl, ht, hn, h⟩
theorem w_bm {T : String} {r : V → List V → Hp → VK → Prop} {ta : TA} (h : te σ H fun x H1 => tyV K T x H1 ∧ ta σ H1 fun xs H2 => r x xs H2 Q) : tBM K T r te ta σ H Q := h
theorem w_bm0 {T : String} {r : V → List V → Hp → VK → Prop} (h : te σ H fun x H1 => tyV K T x H1 ∧ r x [] H1 Q) : tBM0 K T r te σ H Q := h
theorem ty_str {z : Str} : tyV K "str" (.str z) H := rfl
theorem ty_lst (h : H p = some (.lst xs)) : tyV K "list" (.ref p) H := .inl ⟨rfl, xs, SqL.of h⟩
theorem w_join {ls : List (List Nat)} (hp : H p = some (.lst (ls.map fun l => Tx l))) (hz : (ls.map (·.length)).sum + ls.length * a.length ≤ 16777216) (h : Q (Tx (TL.joinL a ls)) H) : rJoinX K (Tx a) [.ref p] H Q := ⟨a, p, ls, rfl, rfl, .inl (SqL.of hp), hz, h⟩
/-- all but l is as it was -/
def ExB (l : Addr) (H H' : Hp) : Prop := ∀ b o, b ≠ l → H b = some o → H' b = some o
theorem ExB.upd {l : Addr} {o : HO} : ExB l H (upd H l o) := fun b u hb h => by rw [upd_ne hb]; exact h
theorem Ex.but {H0 : Hp} {l : Addr} (e : Ex H0 H) (b : ExB l H H') (h : H0 l = none) : Ex H0 H' := fun c o hc => b c o (ne_of_none hc h) (e c o hc)
theorem w_app {m : Addr} (hp : H m = some (.lst xs)) (hl : xs.length < sizeLine) (h : ∀ H2, ExB m H H2 → H2 m = some (.lst (xs ++ [v])) → Q .non H2) : rAppend (.ref m) [v] H Q := ⟨m, xs, v, rfl, rfl, hp, hl, h _ ExB.upd upd_same⟩
theorem w_popAt {m : Addr} {k : Nat} (hp : H m = some (.lst xs)) (hk : k < xs.length) (hs : xs.length < 2 ^ 62) (h : ∀ H2 v, xs[k]? = some v → ExB m H H2 → H2 m = some (.lst (xs.eraseIdx k)) → Q v H2) : rPopAt (.ref m) [.int (k : Int)] H Q := by
  refine ⟨m, xs, _, k, xs[k], rfl, rfl, hp, by omega, by omega, ?_, by simp [hk], h _ _ (by simp [hk]) ExB.upd upd_same⟩
  exact (ixN_seq (by unfold ixN; rw [if_pos (by omega), if_pos (by omega)]; simp)).1
theorem w_setL {m : Addr} {Q : Hp → Prop} (hp : H m = some (.lst xs)) (h0 : 0 ≤ i) (h1 : i < (xs.length : Int)) (h : ∀ H2, ExB m H H2 → H2 m = some (.lst (xs.set i.toNat v)) → Q H2) : rSetL (.ref m) (.int i) v H Q := by
  refine ⟨m, xs, i, i.toNat, rfl, rfl, hp, ?_, h _ ExB.upd upd_same⟩
  unfold ixN
  rw [if_pos h0, if_pos h1]
theorem w_gsub {to ti : TE} {t : TSet} {Q : L2.St → Hp → Prop} (h : to σ H fun o H1 => ti σ H1 fun i H2 => t o i v H2 fun H3 => Q σ H3) : gSub to ti t v σ H Q := h
end
end Lt
namespace Lt
open PySem PySem.Spec PyProof.Rows L2 Evl
open SX (S)
theorem take_more {α : Type} {l : List α} {i : Nat} {x : α} (h : l[i]? = some x) : l.take (i + 1) = l.take i ++ [x] := by
  rw [List.take_add_one, h]; rfl
theorem range_more (i : Nat) : List.range (i + 1) = List.range i ++ [i] := List.range_succ
theorem w_tyL {K : PySem.W.Frag} {H : Hp} {p : Addr} {xs : List V} {A : Prop} (hp : H p = some (.lst xs)) (k : A) : tyV K "list" (.ref p) H ∧ A := ⟨ty_lst hp, k⟩
theorem w_tyS {K : PySem.W.Frag} {H : Hp} {z : Str} {A : Prop} (k : A) : tyV K "str" (.str z) H ∧ A := ⟨rfl, k⟩
theorem w_int1 {P : Int → Prop} {i : Int} (h : P i) : ∃ i', [V.int i] = [V.int i'] ∧ P i' := ⟨i, rfl, h⟩
theorem w_callN {σ : L2.St} {H : Hp} {Q : VK} {sp : Sp} {E : XK} {ta : TA} (h : ta σ H fun vs H1 => sp vs H1 Q E) : tCall sp [] E ta σ H Q := by
  have e : (fun (vs : List V) (H1 : Hp) => sp (vs ++ []) H1 Q E) = fun vs H1 => sp vs H1 Q E := by funext vs H1; rw [List.append_nil]
  show ta σ H fun vs H1 => sp (vs ++ []) H1 Q E
  rw [e]; exact h
def tCutE (t : TE) : TE := fun σ H Q => ∃ R : VK, t σ H R ∧ ∀ v H', R v H' → Q v H'
def tCutT (t : TT) : TT := fun σ H Q => ∃ R : Bool → Hp → Prop, t σ H R ∧ ∀ b H', R b H' → Q b H'
def tCutS (t : TS) : TS := fun D σ H => ∃ R : L2.St → Hp → Prop, t { D with nx := R } σ H ∧ ∀ σ' H', R σ' H' → D.nx σ' H'
section
variable {X : Cx}
theorem pe_cut {e : Expr} {t : TE} (h : PE X e t) : PE X e (tCutE t) := ⟨fun pins s σ H Q I ⟨R, q, w⟩ => thn (h.run pins s σ H R I q) fun _ _ ⟨v, H', I', r, z⟩ => ⟨v, H', I', r, w v H' z⟩⟩
theorem pt_cut {e : Expr} {t : TT} (h : PT X e t) : PT X e (tCutT t) := ⟨fun pins s σ H Q I ⟨R, q, w⟩ => thn (h.run pins s σ H R I q) fun _ _ ⟨H', I', z⟩ => ⟨H', I', w _ H' z⟩⟩
theorem pts_cut {es : List Expr} {t : TT} (h : PTs X es t) : PTs X es (tCutT t) := ⟨fun pins s σ H Q I ⟨R, q, w⟩ => thn (h.run pins s σ H R I q) fun _ _ ⟨H', I', z⟩ => ⟨H', I', w _ H' z⟩⟩
theorem ps_cut {st : Stmt} {t : TS} (h : PS X st t) : PS X st (tCutS t) := ⟨fun pins s σ H D I ⟨R, q, w⟩ => thn (h.run pins s σ H { D with nx := R } I q) fun f _ z => by
  cases f with
  | next => obtain ⟨σ', H', I', z⟩ := z; exact ⟨σ', H', I', w _ _ z⟩
  | brk => exact z
  | cont => exact z
  | ret u => exact z⟩
end
section
variable {σ : L2.St} {H H' : Hp} {D : Ends} {Q : VK} {K : PySem.W.Frag}
theorem w_cutE {t : TE} (R : VK) (h : t σ H R) (k : ∀ v H', R v H' → Q v H') : tCutE t σ H Q := ⟨R, h, k⟩
theorem w_cutT {t : TT} {Q : Bool → Hp → Prop} (R : Bool → Hp → Prop) (h : t σ H R) (k : ∀ b H', R b H' → Q b H') : tCutT t σ H Q := ⟨R, h, k⟩
/-- no cut is wanted -/
theorem w_cutE0 {t : TE} (h : t σ H Q) : tCutE t σ H Q := ⟨Q, h, fun _ _ z => z⟩
theorem w_cutT0 {t : TT} {Q : Bool → Hp → Prop} (h : t σ H Q) : tCutT t σ H Q := ⟨Q, h, fun _ _ z => z⟩
theorem w_cutS0 {t : TS} (h : t D σ H) : tCutS t D σ H := ⟨D.nx, h, fun _ _ z => z⟩
/-- a test's answer by a Bool; a value -/
theorem w_cutB {t : TT} {Q : Bool → Hp → Prop} (c : Bool) (h : t σ H fun b H1 => b = c ∧ H1 = H) (k : Q c H) : tCutT t σ H Q := ⟨_, h, fun _ _ ⟨e1, e2⟩ => by rw [e1, e2]; exact k⟩
theorem w_cutV {t : TE} (v : V) (h : t σ H fun x H1 => x = v ∧ H1 = H) (k : Q v H) : tCutE t σ H Q := ⟨_, h, fun _ _ ⟨e1, e2⟩ => by rw [e1, e2]; exact k⟩
/-- while: an invariant told by a measure -/
theorem w_while {c : TT} {tb : TS} (W : Nat → L2.St → Hp → Prop) (m : Nat) (h0 : W m σ H)
    (hs : ∀ m σ H, W m σ H → c σ H fun b H1 => if b = true then tb { D with nx := fun σ' H' => ∃ m', m' < m ∧ W m' σ' H', ct := fun σ' H' => ∃ m', m' < m ∧ W m' σ' H', bk := D.nx } σ H1 else D.nx σ H1) : tWhile (tCutT c) tb D σ H :=
  ⟨W, ⟨m, h0⟩, fun m σ H w => ⟨_, hs m σ H w, fun b H1 z => by
    cases b with
    | true => exact ⟨_, fun _ _ q => q, z⟩
    | false => exact z⟩⟩
def AnyR (K : PySem.W.Frag) (v : V) (H : Hp) (R : It → Hp → Prop) : Prop := (∃ l, v = Tx l ∧ R (Itx l) H) ∨ (∃ a xs, v = .ref a ∧ SqT K H a xs ∧ R (Itt K a) H) ∨ (∃ a xs, v = .ref a ∧ SqL K H a xs ∧ R (Itl K a) H)
theorem w_iany {te : TE} {R : It → Hp → Prop} (h : te σ H fun v H1 => AnyR K v H1 R) : iAny K te σ H R := h
theorem w_anyX {l : List Nat} {R : It → Hp → Prop} (h : R (Itx l) H) : AnyR K (Tx l) H R := .inl ⟨l, rfl, h⟩
theorem w_anyU {p : Addr} {xs : List V} {R : It → Hp → Prop} (hp : Rd H p (.tup xs)) (h : R (Itt K p) H) : AnyR K (.ref p) H R := .inr (.inl ⟨p, xs, rfl, .inl hp, h⟩)
theorem w_anyL {p : Addr} {xs : List V} {R : It → Hp → Prop} (hp : H p = some (.lst xs)) (h : R (Itl K p) H) : AnyR K (.ref p) H R := .inr (.inr ⟨p, xs, rfl, SqL.of hp, h⟩)
theorem w_anyK {p : Addr} {xs : List V} {R : It → Hp → Prop} (hp : SqL K H p xs) (h : R (Itl K p) H) : AnyR K (.ref p) H R := .inr (.inr ⟨p, xs, rfl, hp, h⟩)
theorem w_rng1 {ta : TA} {R : It → Hp → Prop} (h : ta σ H fun vs H1 => ∃ j : Int, vs = [.int j] ∧ -(2 ^ 62) ≤ j ∧ j < 2 ^ 62 ∧ R (Itr 0 j.toNat) H1) : iRng1 ta σ H R := h
theorem w_rng1k {j : Int} {P : Int → Prop} (h1 : -(2 ^ 62) ≤ j ∧ j < 2 ^ 62) (h : P j) : ∃ j' : Int, [V.int j] = [V.int j'] ∧ -(2 ^ 62) ≤ j' ∧ j' < 2 ^ 62 ∧ P j' := ⟨j, rfl, h1.1, h1.2, h⟩
theorem w_rng2 {ta : TA} {R : It → Hp → Prop} (h : ta σ H fun vs H1 => ∃ i j : Int, vs = [.int i, .int j] ∧ (-(2 ^ 62) ≤ i ∧ i < 2 ^ 62 ∧ -(2 ^ 62) ≤ j ∧ j < 2 ^ 62) ∧ R (Itr i (j - i).toNat) H1) : iRng2 ta σ H R := h
theorem w_rng2k {i j : Int} {P : Int → Int → Prop} (h1 : -(2 ^ 62) ≤ i ∧ i < 2 ^ 62 ∧ -(2 ^ 62) ≤ j ∧ j < 2 ^ 62) (h : P i j) :
    ∃ i' j' : Int, [V.int i, V.int j] = [V.int i', V.int j'] ∧ (-(2 ^ 62) ≤ i' ∧ i' < 2 ^ 62 ∧ -(2 ^ 62) ≤ j' ∧ j' < 2 ^ 62) ∧ P i' j' := ⟨i, j, rfl, h1, h⟩
theorem w_enumX {ta : TA} {R : It → Hp → Prop} (h : ta σ H fun vs H1 => ∃ l, vs = [Tx l] ∧ R (Itex l) H1) : iEnumX ta σ H R := h
theorem w_enumXk {l : List Nat} {P : List Nat → Prop} (h : P l) : ∃ l', [Tx l] = [Tx l'] ∧ P l' := ⟨l, rfl, h⟩
theorem w_zipX {ta : TA} {R : It → Hp → Prop} (h : ta σ H fun vs H1 => ∃ l m, vs = [Tx l, Tx m] ∧ R (Itzx l m) H1) : iZipX ta σ H R := h
theorem w_zipXk {l m : List Nat} {P : List Nat → List Nat → Prop} (h : P l m) : ∃ l' m', [Tx l, Tx m] = [Tx l', Tx m'] ∧ P l' m' := ⟨l, m, rfl, h⟩
theorem w_enumL {ta : TA} {R : It → Hp → Prop} (h : ta σ H fun vs H1 => ∃ a xs, vs = [.ref a] ∧ SqL K H1 a xs ∧ R (Ite K a) H1) : iEnum K ta σ H R := h
theorem w_enumLk {p : Addr} {xs : List V} {P : Addr → Prop} (hp : H p = some (.lst xs)) (h : P p) : ∃ a xs, [V.ref p] = [V.ref a] ∧ SqL K H a xs ∧ P a := ⟨p, xs, rfl, SqL.of hp, h⟩
theorem w_zipL {ta : TA} {R : It → Hp → Prop} (h : ta σ H fun vs H1 => ∃ a b xs ys, vs = [.ref a, .ref b] ∧ SqL K H1 a xs ∧ SqL K H1 b ys ∧ R (Itz K a b) H1) : iZip K ta σ H R := h
theorem w_zipLk {p q : Addr} {xs ys : List V} {P : Addr → Addr → Prop} (hp : H p = some (.lst xs)) (hq : H q = some (.lst ys)) (h : P p q) : ∃ a b xs ys, [V.ref p, V.ref q] = [V.ref a, V.ref b] ∧ SqL K H a xs ∧ SqL K H b ys ∧ P a b :=
  ⟨p, q, xs, ys, rfl, SqL.of hp, SqL.of hq, h⟩
def ForX (J : It) (g : TG) (tb : TS) (D : Ends) (σ : L2.St) (H : Hp) : Prop := ∃ W : Nat → Nat → L2.St → Hp → Prop, (∃ m, W 0 m σ H) ∧ ∀ i m σ H, W i m σ H →
      (J.stop i H ∧ D.nx σ H) ∨ (J.go i H ∧ ∃ N : L2.St → Hp → Prop, (∀ σ' H', N σ' H' → ∃ m', m' < m ∧ W (i + 1) m' σ' H') ∧ ∀ x H', J.yld i H x H' → g x σ H' fun σ2 H2 => tb { D with nx := N, ct := N, bk := D.nx } σ2 H2)
theorem w_for {wi : TI} {g : TG} {tb : TS} (h : wi σ H fun J H1 => ForX J g tb D σ H1) : tFor wi g tb D σ H := h
section
variable {g : TG} {tb : TS} {J : It} {n : Nat} {G : Hp → Prop} {Y : Nat → Hp → V → Hp → Prop}
theorem forX_it (w : Walk J n G Y) (Pv : Nat → L2.St → Hp → Prop) (h0 : Pv 0 σ H) (hG : ∀ i σ H, i ≤ n → Pv i σ H → G H)
    (hs : ∀ i x σ H H', i < n → Pv i σ H → Y i H x H' → g x σ H' fun σ2 H2 => tb { D with nx := Pv (i + 1), ct := Pv (i + 1), bk := D.nx } σ2 H2) (hd : ∀ σ H, Pv n σ H → D.nx σ H) : ForX J g tb D σ H := for_it w Pv h0 hG hs hd
theorem forX_list {p : Addr} {xs : List V} (Pv : Nat → L2.St → Hp → Prop) (h0 : Pv 0 σ H) (hG : ∀ i σ H, i ≤ xs.length → Pv i σ H → SqL K H p xs)
    (hs : ∀ i x σ H, xs[i]? = some x → Pv i σ H → g x σ H fun σ2 H2 => tb { D with nx := Pv (i + 1), ct := Pv (i + 1), bk := D.nx } σ2 H2) (hd : ∀ σ H, Pv xs.length σ H → D.nx σ H) : ForX (Itl K p) g tb D σ H :=
  forX_it walk_list Pv h0 hG (fun i x σ H H' _ p ⟨e, ex⟩ => by subst e; exact hs i x σ _ ex p) hd
theorem forX_range {lo : Int} (Pv : Nat → L2.St → Hp → Prop) (h0 : Pv 0 σ H)
    (hs : ∀ (i : Nat) σ H, i < n → Pv i σ H → g (.int (lo + i)) σ H fun σ2 H2 => tb { D with nx := Pv (i + 1), ct := Pv (i + 1), bk := D.nx } σ2 H2) (hd : ∀ σ H, Pv n σ H → D.nx σ H) : ForX (Itr lo n) g tb D σ H :=
  forX_it walk_range Pv h0 (fun _ _ _ _ _ => trivial) (fun i x σ H H' hi p ⟨e, ex⟩ => by subst e ex; exact hs i σ _ hi p) hd
theorem forX_range0 (Pv : Nat → L2.St → Hp → Prop) (h0 : Pv 0 σ H)
    (hs : ∀ (i : Nat) σ H, i < n → Pv i σ H → g (.int (i : Int)) σ H fun σ2 H2 => tb { D with nx := Pv (i + 1), ct := Pv (i + 1), bk := D.nx } σ2 H2) (hd : ∀ σ H, Pv n σ H → D.nx σ H) : ForX (Itr 0 n) g tb D σ H :=
  forX_range Pv h0 (fun i σ H hi p => by rw [Int.zero_add]; exact hs i σ H hi p) hd
end
def LcX (J : It) (g : TG) (tt : TT) (te : TE) (vs : List Nat) (σ : L2.St) (H1 : Hp) (Q : VK) : Prop := ∀ D, H1 D = none → ∃ W : Nat → Nat → Hp → Prop, (∃ m, W 0 m (upd H1 D (.lst []))) ∧ ∀ i m H, W i m H →
  (J.stop i H ∧ Q (.ref D) H) ∨ (J.go i H ∧ ∃ Nx : Hp → Prop, (∀ H', Nx H' → ∃ m', m' < m ∧ W (i + 1) m' H') ∧ ∀ x H', J.yld i H x H' → g x (wipe σ vs) H' fun σ2 H2 => wipe σ2 vs = wipe σ vs ∧ tt σ2 H2 fun b H3 =>
    if b = true then te σ2 H3 fun y H4 => ∃ acc, H4 D = some (.lst acc) ∧ acc.length < sizeLine ∧ Nx (upd H4 D (.lst (acc ++ [y]))) else Nx H3)
theorem w_lc {wi : TI} {g : TG} {tt : TT} {te : TE} {vs : List Nat} (h : wi σ H fun J H1 => LcX J g tt te vs σ H1 Q) : tLc wi g tt te vs σ H Q := h
/-- a turn of a comprehension: the answer of the test, the item's datum -/
def LcStep (H1 : Hp) (d0 : List PyData) (G1 : List PyData → Prop) (tt : TT) (te : TE) (σ2 : L2.St) (H2 : Hp) : Prop :=
  tt σ2 H2 fun b H3 => if b = true then te σ2 H3 fun y H4 => Ex H1 H4 ∧ ∃ d, flatD d = true ∧ Rp H4 y d ∧ G1 (d0 ++ [d]) else Ex H1 H3 ∧ G1 d0
def LcInv (H : Hp) (D : Addr) (ds : List PyData) (n : Nat) (H' : Hp) : Prop := ∃ acc, H D = none ∧ Ex H H' ∧ H' D = some (.lst acc) ∧ RpAll H' acc ds ∧ flatDs ds = true ∧ acc.length ≤ n
theorem flatDs_append : ∀ {ds : List PyData} {d : PyData}, flatDs ds = true → flatD d = true → flatDs (ds ++ [d]) = true
  | [], d, _, h => by simp [flatDs, h]
  | e :: ds, d, h, h' => by
    have h2 : flatD e = true ∧ flatDs ds = true := by simpa [flatDs] using h
    show (flatD e && flatDs (ds ++ [d])) = true
    rw [h2.1, flatDs_append h2.2 h']; rfl
theorem lc_grow {H H5 : Hp} {D : Addr} {acc : List V} {y : V} {ds : List PyData} {d : PyData} {n : Nat} (h1 : H D = none) (h2 : Ex H H5) (h3 : H5 D = some (.lst acc)) (h4 : RpAll H5 acc ds) (h5 : flatDs ds = true) (h6 : acc.length ≤ n) (hy : Rp H5 y d) (hf : flatD d = true) :
    LcInv H D (ds ++ [d]) (n + 1) (upd H5 D (.lst (acc ++ [y]))) := by
  have et : ∀ b xs, Rd H5 b (.tup xs) → Rd (upd H5 D (.lst (acc ++ [y]))) b (.tup xs) := fun b xs hb => by
    rcases hb with hb | ⟨o, hb⟩
    · exact .inl (by rw [upd_ne (ne_of hb h3 (by intro q; cases q))]; exact hb)
    · exact .inr ⟨o, by rw [upd_ne (ne_of hb h3 (by intro q; cases q))]; exact hb⟩
  refine ⟨acc ++ [y], h1, Ex.mut h2 h1, upd_same, (RpAll.exT et h5 h4).append (.one (Rp.exT et hf hy)), flatDs_append h5 hf, ?_⟩
  rw [List.length_append, List.length_singleton]; omega
section
variable {tt : TT} {te : TE} {J : It} {n : Nat} {G : Hp → Prop} {Y : Nat → Hp → V → Hp → Prop} {vs : List Nat}
theorem lcX_core {g : TG} {j : V → L2.St → L2.St} (hg : ∀ v σ H k, g v σ H k ↔ k (j v σ) H) (w : Walk J n G Y) (hz : n ≤ 100000) (Good : Nat → List PyData → Prop) (h0 : Good 0 []) (hG : ∀ H', Ex H H' → G H')
    (hs : ∀ i x H1 H2 d0, i < n → Ex H H1 → Good i d0 → Y i H1 x H2 → wipe (j x (wipe σ vs)) vs = wipe σ vs ∧ LcStep H1 d0 (Good (i + 1)) tt te (j x (wipe σ vs)) H2)
    (hd : ∀ p H2 acc ds, H p = none → Ex H H2 → H2 p = some (.lst acc) → RpAll H2 acc ds → Good n ds → acc.length ≤ n → Q (.ref p) H2) : LcX J g (tCutT tt) (tCutE te) vs σ H Q := by
  intro D hD
  refine lc_it (n := n) w (fun i H' => ∃ ds, Good i ds ∧ LcInv H D ds i H') ⟨[], h0, [], hD, Ex.new hD, upd_same, .nil, rfl, Nat.le_refl _⟩ (fun i H' _ ⟨_, _, _, _, e, _⟩ => hG H' e) (fun i x H1 H2 hi inv hY => ?_) (fun H' ⟨ds, gd, acc, _, e, h3, h4, _, h6⟩ => hd D H' acc ds hD e h3 h4 gd h6)
  obtain ⟨ds, gd, acc, _, e, h3, h4, h5, h6⟩ := inv
  obtain ⟨q1, q2⟩ := hs i x H1 H2 ds hi e gd hY
  rw [hg]
  refine ⟨q1, _, q2, fun b H3 z => ?_⟩
  cases b with
  | true =>
    simp only [if_true] at z ⊢
    refine ⟨_, z, fun y H4 ⟨e4, d, hf, hy, ed⟩ => ⟨acc, e4 _ _ h3, Nat.lt_of_le_of_lt (Nat.le_trans h6 (Nat.le_trans (Nat.le_of_lt hi) hz)) (by decide), _, ed, ?_⟩⟩
    exact lc_grow hD (e.trans e4) (e4 _ _ h3) (RpAll.ex e4 h4) h5 h6 hy hf
  | false =>
    simp only [Bool.false_eq_true, if_false] at z ⊢
    obtain ⟨e4, ed⟩ := z
    exact ⟨_, ed, acc, hD, e.trans e4, e4 _ _ h3, RpAll.ex e4 h4, h5, Nat.le_succ_of_le h6⟩
/-- for x in ..: one name -/
theorem lcX_rel {k : Nat} (w : Walk J n G Y) (hz : n ≤ 100000) (Good : Nat → List PyData → Prop) (h0 : Good 0 []) (hG : ∀ H', Ex H H' → G H')
    (hw : ∀ v, wipe ((wipe σ vs).set k (some v)) vs = wipe σ vs)
    (hs : ∀ i x H1 H2 d0, i < n → Ex H H1 → Good i d0 → Y i H1 x H2 → LcStep H1 d0 (Good (i + 1)) tt te ((wipe σ vs).set k (some x)) H2)
    (hd : ∀ p H2 acc ds, H p = none → Ex H H2 → H2 p = some (.lst acc) → RpAll H2 acc ds → Good n ds → acc.length ≤ n → Q (.ref p) H2) : LcX J (gName k) (tCutT tt) (tCutE te) vs σ H Q :=
  lcX_core (j := fun x σ => σ.set k (some x)) (fun _ _ _ _ => Iff.rfl) w hz Good h0 hG (fun i x H1 H2 d0 hi e g y => ⟨hw x, hs i x H1 H2 d0 hi e g y⟩) hd
theorem lcX_1 {k : Nat} (w : Walk J n G Y) (hz : n ≤ 100000) (ds : Nat → List PyData) (h0 : ds 0 = []) (hG : ∀ H', Ex H H' → G H')
    (hw : ∀ v, wipe ((wipe σ vs).set k (some v)) vs = wipe σ vs)
    (hs : ∀ i x H1 H2, i < n → Ex H H1 → Y i H1 x H2 → LcStep H1 (ds i) (fun d => d = ds (i + 1)) tt te ((wipe σ vs).set k (some x)) H2)
    (hd : ∀ p H2 acc, H p = none → Ex H H2 → H2 p = some (.lst acc) → RpAll H2 acc (ds n) → acc.length ≤ n → Q (.ref p) H2) : LcX J (gName k) (tCutT tt) (tCutE te) vs σ H Q :=
  lcX_rel w hz (fun i d => d = ds i) h0.symm hG hw (fun i x H1 H2 d0 hi e g y => by subst g; exact hs i x H1 H2 hi e y) (fun p H2 acc ds' hp e h r g hl => by subst g; exact hd p H2 acc hp e h r hl)
end
theorem w_yes {Q : Bool → Hp → Prop} (h : Q true H) : tYes σ H Q := h
end
section
variable {X : Cx} {K : PySem.W.Frag}
theorem op_eqK (hK : X.K = K) (hu : X.A.units + 64 < cLine) : OpR X (compareOp .Eq) (rEqU K) := hK ▸ op_eqU hu
theorem op_neK (hK : X.K = K) (hu : X.A.units + 64 < cLine) : OpR X (compareOp .NotEq) (rNeU K) := hK ▸ op_neU hu
theorem op_inK (hK : X.K = K) : OpR X (compareOp .In) (rInU K) := hK ▸ op_inU
theorem op_notInK (hK : X.K = K) : OpR X (compareOp .NotIn) (rNotInU K) := hK ▸ op_notInU
theorem ix_K (hK : X.K = K) : IxR X (rIxU K) := hK ▸ ix_U
theorem call_lenK (hK : X.K = K) : CallR X (.builtin "len") (rLenU K) := hK ▸ call_lenU
theorem call_listK (hK : X.K = K) (hc : X.calm = true) : CallR X (.type "list") (rListU K) := hK ▸ call_listU hc
theorem mt_joinK (hK : X.K = K) : MtR X "str.join" (rJoinX K) := hK ▸ mt_joinX
theorem call_allK (hK : X.K = K) (hc : X.calm = true) : CallR X (.builtin "all") (rAll K) := hK ▸ cr_all hc
theorem pi_anyK {tg e : Expr} {te : TE} (hK : X.K = K) (he : PE X e te) : PI X tg e (iAny K te) := hK ▸ pi_any he
theorem pg_tupK {es : List Expr} {k : Nat} {t : TGs} {pos : Pos} {n : Nat} (hK : X.K = K) (hc : X.calm = true) (h : PGs X es t)
    (hn : (assignEach es X.env).length = n := by rfl) (hst : (assignEach es X.env).findIdx? (·.1) = none := by rfl) : PG X (.Tuple es k pos) (gTup K n t) := hK ▸ pg_tup hc h hn hst
theorem pe_bmK {o e : Expr} {es : List Expr} {name : Str} {apos cpos : Pos} {T id : String} {r : V → List V → Hp → VK → Prop} {to : TE} {t : TA} (hK : X.K = K) (pa : PlainAttrs T) (slot : Slot T name id) (hty : typeOf (.builtin id) = pure (.type "method_descriptor")) (hm : MtR X id r) (ho : PE X o to) (ha : PA X (e :: es) t)
    (hbase : attributeBase o name X.env (eval o X.env) = eval o X.env := by rfl)
    (hfew : ((backTo cpos (starEach (e :: es) X.env)).all (fun x => !x.1) && (backToKw cpos (keywordEach [] X.env)).all (fun x => x.1.isSome)
      && decide ((e :: es).length + ([] : List Keyword).length + (if ([] : List Keyword).isEmpty then 0 else 1) < 30)) = true := by rfl)
    (hline : (apos.endLine == cpos.line) = true := by rfl) (hs : starEach (e :: es) X.env = (false, eval e X.env) :: starEach es X.env := by rfl) (hplain : (backTo cpos (starEach es X.env)).any (·.1) = false := by rfl) :
    PE X (.Call (.Attribute o name apos) (e :: es) [] cpos) (tBM K T r to t) := hK ▸ pe_bm pa slot hty hm ho ha hbase hfew hline hs hplain
end
end Lt
namespace Lt
open PySem PySem.Spec PyProof.Rows L2 Evl
open SX (S)
/-- flat: None, truths, ints, texts of signs; tuples and lists of such; n: how deep -/
def okD (n : Nat) (d : PyData) : Prop := d.canLay0 = true ∧ d.depth ≤ n
theorem okD.mono {m n : Nat} {d : PyData} (h : okD m d) (hn : m ≤ n) : okD n d := ⟨h.1, Nat.le_trans h.2 hn⟩
theorem okD.shaped {n : Nat} {d : PyData} (h : okD n d) (hn : n ≤ 64 := by decide) : SeqAt.shaped d = true := by
  unfold SeqAt.shaped
  rw [h.1, decide_eq_true (Nat.le_trans h.2 hn)]; rfl
theorem okD_none : okD 1 .none := ⟨rfl, by simp [PyData.depth]⟩
theorem okD_bool (b : Bool) : okD 1 (.bool b) := ⟨rfl, by simp [PyData.depth]⟩
theorem okD_int (i : Int) : okD 1 (.int i) := ⟨rfl, by simp [PyData.depth]⟩
theorem okD_str {x : Str} (h : PyData.strOk x = true) : okD 1 (.str x) := ⟨h, by simp [PyData.depth]⟩
theorem okD_tx {l : List Nat} (h : ∀ c ∈ l, c < 1114112) : okD 1 (.str (S l)) := okD_str (by
  unfold PyData.strOk
  rw [← Array.all_toList]
  exact List.all_eq_true.mpr fun c hc => decide_eq_true (h c hc))
theorem canAll {ds : List PyData} (h : ∀ d ∈ ds, d.canLay0 = true) : PyData.canLayAll0 ds = true := by
  induction ds with
  | nil => rfl
  | cons d ds ih =>
    show (d.canLay0 && PyData.canLayAll0 ds) = true
    rw [h d (by simp), ih fun e he => h e (by simp [he])]; rfl
theorem depthAll_le {n : Nat} {ds : List PyData} (h : ∀ d ∈ ds, d.depth ≤ n) : PyData.depthAll ds ≤ n := by
  induction ds with
  | nil => simp [PyData.depthAll]
  | cons d ds ih =>
    have h1 := h d (by simp)
    have h2 := ih fun e he => h e (by simp [he])
    simp only [PyData.depthAll]
    omega
theorem okD_list {n : Nat} {ds : List PyData} (h : ∀ d ∈ ds, okD n d) : okD (n + 1) (.list ds) := ⟨canAll fun d hd => (h d hd).1, by
  have := depthAll_le fun d hd => (h d hd).2
  simp only [PyData.depth]; omega⟩
theorem okD_tup {n : Nat} {ds : List PyData} (h : ∀ d ∈ ds, okD n d) : okD (n + 1) (.tuple ds) := ⟨canAll fun d hd => (h d hd).1, by
  have := depthAll_le fun d hd => (h d hd).2
  simp only [PyData.depth]; omega⟩
theorem eqv_nil (ds : List PyData) : PyData.eqv (.list ds) (.list []) = ds.isEmpty := by
  cases ds with
  | nil => rfl
  | cons d ds => rfl
/-- a list's items as data -/
theorem rpall_of {H : Hp} {n : Nat} : ∀ {xs : List V}, (∀ x ∈ xs, ∃ d, okD n d ∧ Rp H x d) → ∃ ds, RpAll H xs ds ∧ ∀ d ∈ ds, okD n d
  | [], _ => ⟨[], .nil, by simp⟩
  | x :: xs, h => by
    obtain ⟨d, h1, h2⟩ := h x (by simp)
    obtain ⟨ds, h3, h4⟩ := rpall_of (xs := xs) fun y hy => h y (by simp [hy])
    exact ⟨d :: ds, .cons h2 h3, by intro e he; rcases List.mem_cons.mp he with rfl | he; exact h1; exact h4 e he⟩
theorem erase_perm : ∀ {α : Type} (l : List α) (i : Nat) (y : α), l[i]? = some y → (y :: l.eraseIdx i).Perm l
  | _, [], i, y, h => by simp at h
  | _, x :: l, 0, y, h => by
    simp at h; subst h
    exact List.Perm.refl _
  | _, x :: l, i + 1, y, h => by
    have h' : l[i]? = some y := by simpa using h
    rw [List.eraseIdx_cons_succ]
    exact (List.Perm.swap x y _).trans ((erase_perm l i y h').cons x)
def abcS : List Nat := [97, 98, 99, 100, 101, 102, 103, 104]
theorem abc_lt {c : Nat} (h : c ∈ abcS) : c < 1114112 := by
  simp [abcS] at h; omega
def SignSeq (H : Hp) (v : V) (ss : List Nat) : Prop := v = Tx ss ∨ ∃ p, v = .ref p ∧ H p = some (.lst (ss.map fun c => Tx [c]))
theorem signs_ok {H : Hp} {l : List Nat} (h : ∀ c ∈ l, c < 1114112) : ∀ x ∈ l.map (fun c => Tx [c]), ∃ d, okD 60 d ∧ Rp H x d := fun x hx => by
  obtain ⟨c, hc, rfl⟩ := List.mem_map.mp hx
  exact ⟨.str (S [c]), (okD_tx (l := [c]) (fun d hd => by rw [List.mem_singleton.mp hd]; exact h c hc)).mono (by decide), .str _⟩
theorem SignSeq.ex {H H' : Hp} {v : V} {ss : List Nat} (h : SignSeq H v ss) (e : Ex H H') : SignSeq H' v ss := by
  rcases h with h | ⟨p, h1, h2⟩
  · exact .inl h
  · exact .inr ⟨p, h1, e _ _ h2⟩
/-- a sign of a text or a list of signs -/
theorem w_ixQ {K : PySem.W.Frag} {H : Hp} {Q : VK} {v : V} {ss : List Nat} {i : Int} (hq : SignSeq H v ss) (hl : ss.length ≤ sizeLine) (h0 : 0 ≤ i) (h1 : i < (ss.length : Int)) (h : ∀ c, ss[i.toNat]? = some c → Q (Tx [c]) H) : rIxU K v (.int i) H Q := by
  rcases hq with rfl | ⟨p, rfl, hp⟩
  · exact w_ixX hl h0 h1 h
  · refine w_ixL hp h0 (by simpa using h1) fun v hv => ?_
    simp at hv
    obtain ⟨c, hc, rfl⟩ := hv
    exact h c hc
theorem w_lenQ {K : PySem.W.Frag} {H : Hp} {Q : VK} {v : V} {ss : List Nat} (hq : SignSeq H v ss) (hl : ss.length ≤ sizeLine) (h : Q (.int (ss.length : Int)) H) : rLenU K [v] H Q := by
  rcases hq with rfl | ⟨p, rfl, hp⟩
  · exact w_lenX hl h
  · refine w_lenL hp ?_
    simpa using h
theorem joinL_nil : ∀ l : List (List Nat), TL.joinL [] l = l.flatten
  | [] => rfl
  | [x] => by simp [TL.joinL]
  | x :: y :: l => by
    have h := joinL_nil (y :: l)
    simp only [TL.joinL, h]
    simp
theorem joinL_signs (l : List Nat) : TL.joinL [] (l.map fun c => [c]) = l := by
  rw [joinL_nil]
  induction l with
  | nil => rfl
  | cons c l ih => simp [ih]
theorem rpall_signs {α : Type} {H : Hp} {g : α → Nat} : ∀ {l : List α} {acc : List V}, RpAll H acc (l.map fun x => .str (S [g x])) → acc = (l.map g).map fun c => Tx [c]
  | [], _, h => rpall_nil h
  | x :: l, _, h => by
    obtain ⟨v, ws, rfl, h1, h2⟩ := rpall_cons h
    rw [rp_str h1, rpall_signs h2]; rfl
theorem w_join1 {K : PySem.W.Frag} {H : Hp} {Q : VK} {p : Addr} {l : List Nat} (hp : H p = some (.lst (l.map fun c => Tx [c]))) (hl : l.length ≤ 16777216) (h : Q (Tx l) H) : rJoinX K (Tx []) [.ref p] H Q := by
  refine w_join (ls := l.map fun c => [c]) (by rw [List.map_map]; exact hp) ?_ (by rw [joinL_signs]; exact h)
  have e2 : ((l.map fun c => [c]).map List.length) = List.replicate l.length 1 := by
    rw [List.map_map]
    exact List.map_const' ..
  rw [e2]
  simp only [List.sum_replicate_nat, List.length_map, List.length_nil, Nat.mul_one, Nat.mul_zero, Nat.add_zero]
  exact hl
theorem perm_map {α β : Type} {f : α → β} : ∀ {ys : List β} {l : List α}, ys.Perm (l.map f) → ∃ m : List α, m.Perm l ∧ ys = m.map f := by
  intro ys l h
  generalize hx : l.map f = xs at h
  induction h generalizing l with
  | nil => cases l with
    | nil => exact ⟨[], .refl _, rfl⟩
    | cons a l => simp at hx
  | cons y _ ih => cases l with
    | nil => simp at hx
    | cons a l =>
      simp at hx
      obtain ⟨h1, h2⟩ := hx
      obtain ⟨m, hm, e⟩ := ih h2
      exact ⟨a :: m, hm.cons a, by simp [h1, e]⟩
  | swap x y ys => cases l with
    | nil => simp at hx
    | cons a l => cases l with
      | nil => simp at hx
      | cons b l =>
        simp at hx
        obtain ⟨h1, h2, h3⟩ := hx
        exact ⟨b :: a :: l, .swap a b l, by simp [h1, h2, h3]⟩
  | trans _ _ ih1 ih2 =>
    obtain ⟨m, hm, e⟩ := ih2 hx
    obtain ⟨m', hm', e'⟩ := ih1 e.symm
    exact ⟨m', hm'.trans hm, e'⟩
theorem cutL_to {α : Type} (l : List α) {k : Int} (hk : 0 ≤ k) : cutL l none (some k) = l.take k.toNat := by
  obtain ⟨n, rfl⟩ : ∃ n : Nat, k = n := ⟨k.toNat, by omega⟩
  unfold cutL
  rw [HT.sIx_none, HT.sIx_nat]
  simp only [List.drop_zero, Nat.sub_zero, Int.toNat_natCast]
  rw [Nat.min_def]
  split
  · rfl
  · rw [List.take_of_length_le (Nat.le_refl _), List.take_of_length_le (by omega)]
theorem cutL_from {α : Type} (l : List α) {k : Int} (hk : 0 ≤ k) : cutL l (some k) none = l.drop k.toNat := by
  obtain ⟨n, rfl⟩ : ∃ n : Nat, k = n := ⟨k.toNat, by omega⟩
  unfold cutL
  rw [HT.sIx_none, HT.sIx_nat]
  simp only [Int.toNat_natCast]
  rw [Nat.min_def]
  split
  · rw [List.take_of_length_le (by simp)]
  · rw [List.drop_of_length_le (Nat.le_refl _), List.drop_of_length_le (by omega)]; simp
theorem cutL_both {α : Type} (l : List α) {k m : Int} (hk : 0 ≤ k) (hm : 0 ≤ m) : cutL l (some k) (some m) = (l.drop k.toNat).take (m.toNat - k.toNat) := by
  obtain ⟨n, rfl⟩ : ∃ n : Nat, k = n := ⟨k.toNat, by omega⟩
  obtain ⟨q, rfl⟩ : ∃ n : Nat, m = n := ⟨m.toNat, by omega⟩
  unfold cutL
  rw [HT.sIx_nat, HT.sIx_nat]
  simp only [Int.toNat_natCast]
  by_cases h : n ≤ l.length
  · rw [Nat.min_eq_left h]
    by_cases h2 : q ≤ l.length
    · rw [Nat.min_eq_left h2]
    · rw [Nat.min_eq_right (by omega), List.take_of_length_le (by simp), List.take_of_length_le (by simp; omega)]
  · rw [Nat.min_eq_right (show l.length ≤ n by omega), List.drop_of_length_le (Nat.le_refl _), List.drop_of_length_le (show l.length ≤ n by omega)]; simp
def turnM (row : List Nat) (h t : Nat) : List Nat := row.take h ++ ((row.drop h).take (t + 1 - h)).reverse ++ row.drop (t + 1)
def turnsIn (row held : List Nat) (h j : Nat) : List (Nat × Nat) :=
  if row.getD h 0 ∈ held then [] else ((List.range' (h + 1) j).filter fun t => decide (row.getD t 0 = row.getD h 0)).map fun t => (h, t)
def turnsAt (row held : List Nat) (h : Nat) : List (Nat × Nat) := turnsIn row held h (row.length - (h + 1))
theorem turnsIn_more (row held : List Nat) (h j : Nat) : turnsIn row held h (j + 1) = turnsIn row held h j ++ (if row.getD h 0 ∉ held ∧ row.getD (h + 1 + j) 0 = row.getD h 0 then [(h, h + 1 + j)] else []) := by
  unfold turnsIn
  by_cases h1 : row.getD h 0 ∈ held
  · rw [if_pos h1, if_pos h1, if_neg (fun q => q.1 h1)]; rfl
  · rw [if_neg h1, if_neg h1, List.range'_1_concat, List.filter_append, List.map_append]
    by_cases h2 : row.getD (h + 1 + j) 0 = row.getD h 0
    · rw [if_pos ⟨h1, h2⟩]
      simp only [List.filter_cons, List.filter_nil]
      rw [if_pos (by simpa using h2)]; rfl
    · rw [if_neg (fun q => h2 q.2)]
      simp only [List.filter_cons, List.filter_nil]
      rw [if_neg (by simpa using h2)]; rfl
def turnsM (row held : List Nat) : List (Nat × Nat) := (List.range row.length).flatMap (turnsAt row held)
theorem turns_more (row held : List Nat) (i : Nat) : (List.range (i + 1)).flatMap (turnsAt row held) = (List.range i).flatMap (turnsAt row held) ++ turnsAt row held i := by
  rw [List.range_succ, List.flatMap_append]
  simp
/-- a list that grows in a loop -/
theorem LcInv.start {H H1 : Hp} {p : Addr} (hp : H p = none) (e : Ex H H1) (h : H1 p = some (.lst [])) : LcInv H p [] 0 H1 := ⟨[], hp, e, h, .nil, rfl, Nat.le_refl _⟩
theorem LcInv.ex {H H1 H2 : Hp} {p : Addr} {ds : List PyData} {n m : Nat} (i : LcInv H p ds n H1) (e : Ex H1 H2) (hn : n ≤ m) : LcInv H p ds m H2 := by
  obtain ⟨acc, h1, h2, h3, h4, h5, h6⟩ := i
  exact ⟨acc, h1, h2.trans e, e _ _ h3, h4.ex e, h5, Nat.le_trans h6 hn⟩
end Lt
namespace Lt
open PySem PySem.Spec PyProof.Rows L2 Evl
open SX (S)
def appV (vs zs : List V) : List V := vs ++ zs
section
variable {σ : L2.St} {H : Hp} {Q : VK} {sp : Sp} {E : XK} {a b c d e : V} {n m : Nat} {t tk : TA} {gV : List V → List V → List V}
theorem w_callK (h : t σ H fun vs H1 => tk σ H1 fun zs H2 => vs.length = n ∧ zs.length = m ∧ sp (gV vs zs) H2 Q E) : tCallN n m sp gV E t tk σ H Q := h
theorem w_kb1 {y : Str} (h : sp [a, b] H Q E) : [a].length = 1 ∧ [b].length = [y].length ∧ sp (appV [a] [b]) H Q E := ⟨rfl, rfl, h⟩
theorem w_kb2 {y : Str} (h : sp [a, b, c] H Q E) : [a, b].length = 2 ∧ [c].length = [y].length ∧ sp (appV [a, b] [c]) H Q E := ⟨rfl, rfl, h⟩
theorem w_kb3 {y : Str} (h : sp [a, b, c, d] H Q E) : [a, b, c].length = 3 ∧ [d].length = [y].length ∧ sp (appV [a, b, c] [d]) H Q E := ⟨rfl, rfl, h⟩
theorem w_isT {n t : String} (ht : Tg H a t) (hn : n ∈ ["int", "bool", "str", "tuple", "list"]) (hb : isiB t n = true) (h : Q (.bl true) H) : rIsU [a, .ty n] H Q := w_is ht hn (by rw [hb]; exact h)
theorem w_isF {n t : String} (ht : Tg H a t) (hn : n ∈ ["int", "bool", "str", "tuple", "list"]) (hb : isiB t n = false) (h : Q (.bl false) H) : rIsU [a, .ty n] H Q := w_is ht hn (by rw [hb]; exact h)
theorem w_itT {A B : Prop} (h : A) : if true = true then A else B := h
theorem w_itF {A B : Prop} (h : B) : if false = true then A else B := h
theorem w_itNT {A B : Prop} (h : B) : if (!true) = true then A else B := h
theorem w_itNF {A B : Prop} (h : A) : if (!false) = true then A else B := h
theorem w_kd1 (h : sp [a, b] H Q E) : sp ([a] ++ [b]) H Q E := h
theorem w_kd2 (h : sp [a, b, c] H Q E) : sp ([a, b] ++ [c]) H Q E := h
theorem w_kd3 (h : sp [a, b, c, d] H Q E) : sp ([a, b, c] ++ [d]) H Q E := h
end
theorem rpall_bools {α : Type} {H : Hp} {g : α → Bool} : ∀ {l : List α} {acc : List V}, RpAll H acc (l.map fun x => .bool (g x)) → acc = (l.map g).map V.bl
  | [], acc, h => by cases h; rfl
  | x :: l, acc, h => by
    obtain ⟨v, ws, rfl, hv, hw⟩ := rpall_cons h
    rw [rp_bool hv, rpall_bools hw]; rfl
section
variable {K : PySem.W.Frag} {σ : L2.St} {H : Hp} {Q : VK} {tt : TT} {te : TE} {J : It} {n : Nat} {G : Hp → Prop} {Y : Nat → Hp → V → Hp → Prop} {vs : List Nat}
abbrev g2 (K : PySem.W.Frag) (a b : Nat) : TG := gTup K 2 (gCons (gName a) (gCons (gName b) gNil))
theorem tYes_step {σ2 : L2.St} {H1 H2 : Hp} {d0 : List PyData} {G1 : List PyData → Prop} (h : te σ2 H2 fun y H4 => Ex H1 H4 ∧ ∃ d, flatD d = true ∧ Rp H4 y d ∧ G1 (d0 ++ [d])) : LcStep H1 d0 G1 tYes te σ2 H2 := by
  unfold LcStep
  refine w_yes ?_
  simp only [if_true]
  exact h
/-- [truth for x in ..] -/
theorem lcX_bl {k : Nat} (w : Walk J n G Y) (hz : n ≤ 100000) (g : Nat → Bool) (hG : ∀ H', Ex H H' → G H')
    (hw : ∀ v, wipe ((wipe σ vs).set k (some v)) vs = wipe σ vs)
    (hs : ∀ i x H1 H2 (Q' : VK), i < n → Ex H H1 → Y i H1 x H2 → (∀ H4, Ex H1 H4 → Q' (.bl (g i)) H4) → te ((wipe σ vs).set k (some x)) H2 Q')
    (hd : ∀ p H2, H p = none → Ex H H2 → H2 p = some (.lst (((List.range n).map g).map V.bl)) → Q (.ref p) H2) : LcX J (gName k) (tCutT tYes) (tCutE te) vs σ H Q :=
  lcX_1 w hz (fun i => (List.range i).map fun k => .bool (g k)) rfl hG hw (fun i x H1 H2 hi e y => tYes_step (hs i x H1 H2 _ hi e y fun H4 e4 => ⟨e4, .bool (g i), rfl, .bl _, by rw [range_more, List.map_append]; rfl⟩))
    (fun p H2 acc hp e h r _ => hd p H2 hp e (by rw [h, rpall_bools r]))
theorem all_range {g : Nat → Bool} {n : Nat} (h : ∀ i, i < n → g i = true) : ((List.range n).map g).all id = true := by
  simp only [List.all_map, List.all_eq_true, List.mem_range, Function.comp, id]
  exact h
end
end Lt
namespace Lt
open PySem PySem.Spec PyProof.Rows L2 Evl
open SX (S)
section
variable {K : PySem.W.Frag} {σ : L2.St} {H H1 H2 : Hp} {Q : VK} {xs zs : List V} {m b : Addr}
theorem w_ext (hp : H m = some (.lst xs)) (hb : H b = some (.lst zs)) (hl : xs.length + zs.length ≤ sizeLine) (h : ∀ H2, ExB m H H2 → H2 m = some (.lst (xs ++ zs)) → Q .non H2) : rExtend (.ref m) [.ref b] H Q :=
  ⟨m, b, xs, zs, rfl, rfl, hp, hb, hl, h _ ExB.upd upd_same⟩
theorem w_revL {te : TE} (h : te σ H fun x H1 => ∃ a xs, x = .ref a ∧ SqL K H1 a xs ∧ ∀ p, H1 p = none → Q (.ref p) (upd H1 p (.lst xs.reverse))) : tRevL K te σ H Q := h
theorem w_revLk {P : List V → Addr → Prop} (hp : H m = some (.lst xs)) (h : ∀ p, H p = none → P xs p) : ∃ a ys, V.ref m = .ref a ∧ SqL K H a ys ∧ ∀ p, H p = none → P ys p := ⟨m, xs, rfl, SqL.of hp, h⟩
theorem flatDs_app : ∀ {ds es : List PyData}, flatDs ds = true → flatDs es = true → flatDs (ds ++ es) = true
  | [], es, _, h => h
  | e :: ds, es, h, h' => by
    have h2 : flatD e = true ∧ flatDs ds = true := by simpa [flatDs] using h
    show (flatD e && flatDs (ds ++ es)) = true
    rw [h2.1, flatDs_app h2.2 h']; rfl
/-- behind an extend -/
theorem LcInv.ext {H H1 H2 : Hp} {p : Addr} {acc ys : List V} {ds es : List PyData} {n m : Nat} (h1 : H p = none) (h2 : Ex H H1) (h3 : H1 p = some (.lst acc)) (h4 : RpAll H1 acc ds) (h5 : flatDs ds = true) (h6 : acc.length ≤ n)
    (hy : RpAll H1 ys es) (hf : flatDs es = true) (hl : ys.length ≤ m) (b : ExB p H1 H2) (h7 : H2 p = some (.lst (acc ++ ys))) : LcInv H p (ds ++ es) (n + m) H2 := by
  have et : ∀ b' xs, Rd H1 b' (.tup xs) → Rd H2 b' (.tup xs) := fun b' xs hb => by
    rcases hb with hb | ⟨o, hb⟩
    · exact .inl (b b' _ (ne_of hb h3 (by intro q; cases q)) hb)
    · exact .inr ⟨o, b b' _ (ne_of hb h3 (by intro q; cases q)) hb⟩
  refine ⟨acc ++ ys, h1, Ex.but h2 b h1, h7, (RpAll.exT et h5 h4).append (RpAll.exT et hf hy), flatDs_app h5 hf, ?_⟩
  rw [List.length_append]; omega
end
section
variable {K : PySem.W.Frag} {H : Hp} {Q : VK} {x : V}
theorem w_isN (h : Q (.bl true) H) : rIsN .non .non H Q := ⟨rfl, h⟩
theorem w_isNx (hx : x ≠ .non) (h : Q (.bl false) H) : rIsN x .non H Q := ⟨rfl, by rw [decide_eq_false hx]; exact h⟩
theorem w_notN (h : Q (.bl false) H) : rNotN .non .non H Q := ⟨rfl, h⟩
theorem w_notNx (hx : x ≠ .non) (h : Q (.bl true) H) : rNotN x .non H Q := ⟨rfl, by rw [decide_eq_false hx]; exact h⟩
theorem w_neB1 (h : Q (.bl false) H) : rNeU K (.bl true) (.bl true) H Q := w_neS rfl h
theorem w_neB2 (h : Q (.bl false) H) : rNeU K (.bl false) (.bl false) H Q := w_neS rfl h
theorem w_neB3 (h : Q (.bl true) H) : rNeU K (.bl true) (.bl false) H Q := w_neS rfl h
theorem w_neB4 (h : Q (.bl true) H) : rNeU K (.bl false) (.bl true) H Q := w_neS rfl h
theorem w_eqB {b : Bool} (h : Q (.bl true) H) : rEqU K (.bl b) (.bl b) H Q := w_eqS rfl (by rw [decide_eq_true rfl]; exact h)
theorem w_eqStr {l : Str} (h : Q (.bl true) H) : rEqU K (.str l) (.str l) H Q := w_eqS rfl (by rw [decide_eq_true rfl]; exact h)
end
section
variable {H : Hp} {Q : VK} {p : Addr} {xs : List V} {n : String}
theorem w_isLT (hp : H p = some (.lst xs)) (hn : n ∈ ["int", "bool", "str", "tuple", "list"]) (hb : isiB "list" n = true) (h : Q (.bl true) H) : rIsU [.ref p, .ty n] H Q := w_isT (Tg.lst hp) hn hb h
theorem w_isLF (hp : H p = some (.lst xs)) (hn : n ∈ ["int", "bool", "str", "tuple", "list"]) (hb : isiB "list" n = false) (h : Q (.bl false) H) : rIsU [.ref p, .ty n] H Q := w_isF (Tg.lst hp) hn hb h
theorem w_isUT (hp : Rd H p (.tup xs)) (hn : n ∈ ["int", "bool", "str", "tuple", "list"]) (hb : isiB "tuple" n = true) (h : Q (.bl true) H) : rIsU [.ref p, .ty n] H Q := w_isT (Tg.tup hp) hn hb h
theorem w_isUF (hp : Rd H p (.tup xs)) (hn : n ∈ ["int", "bool", "str", "tuple", "list"]) (hb : isiB "tuple" n = false) (h : Q (.bl false) H) : rIsU [.ref p, .ty n] H Q := w_isF (Tg.tup hp) hn hb h
end
end Lt
namespace Lt
open PySem PySem.Spec PyProof.Rows L2 Evl
open SX (S)
/-- what bars a turn of two places -/
def whyM (row held : List Nat) (h t : Int) : List Nat :=
  if 0 ≤ h ∧ h < t ∧ t < row.length then (if row.getD h.toNat 0 ≠ row.getD t.toNat 0 then [117, 110, 108, 105, 107, 101] else if row.getD h.toNat 0 ∈ held then [112, 105, 110, 110, 101, 100] else []) else [112, 108, 97, 99, 101]
/-- turns made one behind another: each is allowed -/
def goesM (held : List Nat) : List Nat → List (Nat × Nat) → Prop
  | _, [] => True
  | row, q :: ts => whyM row held q.1 q.2 = [] ∧ goesM held (turnM row q.1 q.2) ts
def runM (row : List Nat) (ts : List (Nat × Nat)) : List Nat := ts.foldl (fun r q => turnM r q.1 q.2) row
theorem turnM_len {row : List Nat} {h t : Nat} (hh : h ≤ t) (ht : t < row.length) : (turnM row h t).length = row.length := by
  unfold turnM; simp; omega
theorem turnM_mem {row : List Nat} {h t : Nat} (hh : h ≤ t) : ∀ {c}, c ∈ turnM row h t → c ∈ row := by
  intro c hc
  unfold turnM at hc
  rw [List.mem_append, List.mem_append, List.mem_reverse] at hc
  rcases hc with (hc | hc) | hc
  · exact List.mem_of_mem_take hc
  · exact List.mem_of_mem_drop (List.mem_of_mem_take hc)
  · exact List.mem_of_mem_drop hc
theorem turnsIn_mem {row held : List Nat} {h : Nat} : ∀ {j : Nat} {q : Nat × Nat}, q ∈ turnsIn row held h j → q.1 = h ∧ h < q.2 ∧ q.2 < h + 1 + j ∧ row.getD h 0 ∉ held ∧ row.getD q.2 0 = row.getD h 0
  | 0, q, hq => by simp [turnsIn] at hq
  | j + 1, q, hq => by
    rw [turnsIn_more, List.mem_append] at hq
    rcases hq with hq | hq
    · obtain ⟨a, b, c, d⟩ := turnsIn_mem hq
      exact ⟨a, b, by omega, d⟩
    · split at hq
      · rename_i c
        simp at hq
        subst hq
        exact ⟨rfl, by show h < h + 1 + j; omega, by show h + 1 + j < _; omega, c⟩
      · cases hq
theorem turnsM_mem {row held : List Nat} {q : Nat × Nat} (hq : q ∈ turnsM row held) : q.1 < q.2 ∧ q.2 < row.length ∧ row.getD q.1 0 ∉ held ∧ row.getD q.2 0 = row.getD q.1 0 := by
  unfold turnsM at hq
  rw [List.mem_flatMap] at hq
  obtain ⟨h, hh, hq⟩ := hq
  rw [List.mem_range] at hh
  obtain ⟨rfl, b, c, d, e⟩ := turnsIn_mem hq
  exact ⟨b, by omega, d, e⟩
theorem whyM_turns {row held : List Nat} {q : Nat × Nat} (hq : q ∈ turnsM row held) : whyM row held q.1 q.2 = [] := by
  obtain ⟨a, b, c, d⟩ := turnsM_mem hq
  unfold whyM
  rw [if_pos (by omega)]
  have e1 : ((q.1 : Int)).toNat = q.1 := by omega
  have e2 : ((q.2 : Int)).toNat = q.2 := by omega
  rw [e1, e2, if_neg (fun z => z d.symm), if_neg c]
/-- data of which _law_alike says that two are alike -/
def alk : Nat → PyData → Bool
  | 0, _ => false
  | n + 1, .none => true
  | n + 1, .bool _ => true
  | n + 1, .int _ => true
  | n + 1, .str _ => true
  | n + 1, .tuple ds => decide (ds.length ≤ 100000) && ds.all (alk n)
  | n + 1, .list ds => decide (ds.length ≤ 100000) && ds.all (alk n)
  | _ + 1, _ => false
theorem alk_get {n : Nat} {ds : List PyData} (h : (decide (ds.length ≤ 100000) && ds.all (alk n)) = true) : ds.length ≤ 100000 ∧ ∀ d ∈ ds, alk n d = true := by
  simpa only [Bool.and_eq_true, decide_eq_true_eq, List.all_eq_true] using h
theorem turnM_get {row : List Nat} {h t i : Nat} (hh : h ≤ t) (ht : t < row.length) : (turnM row h t)[i]? = if h ≤ i ∧ i ≤ t then row[h + t - i]? else row[i]? := by
  unfold turnM
  have l1 : (row.take h).length = h := by simp; omega
  have l2 : ((row.drop h).take (t + 1 - h)).reverse.length = t + 1 - h := by simp; omega
  by_cases c1 : i < h
  · rw [if_neg (by omega), List.append_assoc, List.getElem?_append_left (by omega), List.getElem?_take_of_lt c1]
  · by_cases c2 : i ≤ t
    · rw [if_pos (by omega), List.append_assoc, List.getElem?_append_right (by omega), List.getElem?_append_left (by omega), l1, List.getElem?_reverse (by simp; omega)]
      rw [List.getElem?_take_of_lt (by simp; omega), List.getElem?_drop]
      congr 1
      simp
      omega
    · rw [if_neg (by omega), List.getElem?_append_right (by simp; omega), List.getElem?_drop]
      congr 1
      simp
      omega
theorem whyM_iff {row held : List Nat} {h t : Nat} : whyM row held h t = [] ↔ h < t ∧ t < row.length ∧ row.getD h 0 = row.getD t 0 ∧ row.getD h 0 ∉ held := by
  unfold whyM
  have e1 : ((h : Int)).toNat = h := by omega
  have e2 : ((t : Int)).toNat = t := by omega
  rw [e1, e2]
  constructor
  · intro z
    split at z
    · rename_i c
      split at z
      · cases z
      · rename_i c2
        split at z
        · cases z
        · rename_i c3
          exact ⟨by omega, by omega, Decidable.not_not.mp c2, c3⟩
    · cases z
  · rintro ⟨a, b, c, d⟩
    rw [if_pos (by omega), if_neg (fun q => q c), if_neg d]
theorem turnM_getD {row : List Nat} {h t i : Nat} (hh : h ≤ t) (ht : t < row.length) : (turnM row h t).getD i 0 = if h ≤ i ∧ i ≤ t then row.getD (h + t - i) 0 else row.getD i 0 := by
  rw [List.getD_eq_getElem?_getD, turnM_get hh ht]
  split <;> rw [List.getD_eq_getElem?_getD]
/-- a turn done once more -/
theorem turnM_twice {row : List Nat} {h t : Nat} (hh : h ≤ t) (ht : t < row.length) : turnM (turnM row h t) h t = row := by
  refine List.ext_getElem? fun i => ?_
  rw [turnM_get hh (by rw [turnM_len hh ht]; exact ht)]
  split
  · rw [turnM_get hh ht, if_pos (by omega)]
    congr 1; omega
  · rw [turnM_get hh ht, if_neg (by assumption)]
theorem whyM_twice {row held : List Nat} {h t : Nat} (w : whyM row held h t = []) : whyM (turnM row h t) held h t = [] := by
  obtain ⟨a, b, c, d⟩ := whyM_iff.mp w
  have hh : h ≤ t := by omega
  refine whyM_iff.mpr ⟨a, by rw [turnM_len hh b]; exact b, ?_, ?_⟩
  · rw [turnM_getD hh b, turnM_getD hh b, if_pos (by omega), if_pos (by omega)]
    have e1 : h + t - h = t := by omega
    have e2 : h + t - t = h := by omega
    rw [e1, e2]; exact c.symm
  · rw [turnM_getD hh b, if_pos (by omega)]
    have e1 : h + t - h = t := by omega
    rw [e1, ← c]; exact d
/-- read from the other end -/
theorem turnM_rev {row : List Nat} {h t : Nat} (hh : h ≤ t) (ht : t < row.length) : turnM row.reverse (row.length - 1 - t) (row.length - 1 - h) = (turnM row h t).reverse := by
  refine List.ext_getElem? fun i => ?_
  rw [turnM_get (by omega) (by simp; omega)]
  by_cases hi : i < row.length
  · rw [List.getElem?_reverse (l := turnM row h t) (by rw [turnM_len hh ht]; exact hi), turnM_len hh ht, turnM_get hh ht]
    by_cases c : h ≤ row.length - 1 - i ∧ row.length - 1 - i ≤ t
    · rw [if_pos c, if_pos (by omega), List.getElem?_reverse (l := row) (by omega)]
      congr 1; omega
    · rw [if_neg c, if_neg (by omega), List.getElem?_reverse (l := row) hi]
  · rw [List.getElem?_eq_none (l := (turnM row h t).reverse) (by rw [List.length_reverse, turnM_len hh ht]; omega), if_neg (by omega), List.getElem?_eq_none (by rw [List.length_reverse]; omega)]
theorem rev_getD {row : List Nat} {i : Nat} (hi : i < row.length) : row.reverse.getD i 0 = row.getD (row.length - 1 - i) 0 := by
  rw [List.getD_eq_getElem?_getD, List.getElem?_reverse hi, List.getD_eq_getElem?_getD]
theorem whyM_rev {row held : List Nat} {h t : Nat} (w : whyM row held h t = []) : whyM row.reverse held ((row.length - 1 - t : Nat) : Int) ((row.length - 1 - h : Nat) : Int) = [] := by
  obtain ⟨a, b, c, d⟩ := whyM_iff.mp w
  refine whyM_iff.mpr ⟨by omega, by rw [List.length_reverse]; omega, ?_, ?_⟩
  · rw [rev_getD (by omega), rev_getD (by omega)]
    have e1 : row.length - 1 - (row.length - 1 - t) = t := by omega
    have e2 : row.length - 1 - (row.length - 1 - h) = h := by omega
    rw [e1, e2]; exact c.symm
  · rw [rev_getD (by omega)]
    have e1 : row.length - 1 - (row.length - 1 - t) = t := by omega
    rw [e1, ← c]; exact d
end Lt
namespace Lt
open PySem PySem.Spec PyProof.Rows L2 Evl
open SX (S)
inductive Dt where
  | non | bl (b : Bool) | int (i : Int) | str (l : List Nat) | tup (ds : List Dt) | tpk (ds : List Dt) | lst (ds : List Dt) | dic (ks : List Key) (ds : List Dt) | dice | val (v : V) | ob (i : Nat) (ds : List Dt)
/-- tuples, which never change -/
def tupO : HO → Bool
  | .tup _ => true
  | .frz _ (.tup _) => true
  | _ => false
def TupK (A : Addr → Prop) (H : Hp) (A' : Addr → Prop) (H' : Hp) : Prop := ∀ a u, A a → H a = some u → tupO u = true → A' a ∧ H' a = some u
/-- kinds of objects that never stand for what may change -/
def fixO : HO → Bool
  | .ext _ => false
  | .tbl _ => false
  | _ => true
/-- what a program's own kinds of objects ask: objects that may change (ch) and stay what they stand for (sp), what is always so of them (Z), data that stand for them (ob) -/
class ZI where
  ch : HO → Prop
  ch_fix : ∀ {o}, fixO o = true → ¬ ch o
  ch_ext : ∀ {φ}, ch (.ext φ) → ∃ h0, φ h0 ∧ ∀ b ob, h0.get? b = some ob → ∃ es ep, ob.data = .dict es ep
  sp : (Addr → Prop) → Hp → Addr → HO → HO → Prop
  sp_rfl : ∀ {A H q} o, sp A H q o o
  sp_trans : ∀ {A H A' H' q a b c}, sp A H q a b → TupK A H A' H' → sp A' H' q b c → sp A' H' q a c
  sp_ch : ∀ {A H q a b}, sp A H q a b → b = a ∨ (ch a ∧ ch b)
  Z : Hp → Prop
  ob : Nat → List Dt → (Addr → Prop) → Hp → V → Prop
  ob_ref : ∀ {i ds A H v}, ob i ds A H v → ∃ a, v = .ref a
  ob_mono : ∀ {i ds A A' H H' v}, (∀ a o, A a → H a = some o → A' a ∧ ∃ o', H' a = some o' ∧ sp A' H' a o o') → ob i ds A H v → ob i ds A' H' v
  ob_lock : ∀ {i ds} {A A' : Addr → Prop} {H H' v}, (∀ a o, A a → H a = some o → A' a ∧ (H' a = some o ∨ ∃ ws, Rd H a (.dK ws) ∧ Rd H' a (.dK ws))) → ob i ds A H v → ob i ds A' H' v
variable [ZI]
abbrev sp (A : Addr → Prop) (H : Hp) (q : Addr) (a b : HO) : Prop := ZI.sp A H q a b
section
variable {A : Addr → Prop} {H : Hp} {q : Addr}
theorem ZI.sp_mono {A' : Addr → Prop} {H' : Hp} {a b : HO} (h : ZI.sp A H q a b) (k : TupK A H A' H') : ZI.sp A' H' q a b := ZI.sp_trans h k (ZI.sp_rfl b)
theorem ZI.sp_fix {o u : HO} (h : fixO o = true) (s : ZI.sp A H q o u) : u = o := (ZI.sp_ch s).resolve_right fun z => ZI.ch_fix h z.1
theorem ZI.sp_fix' {o u : HO} (h : fixO u = true) (s : ZI.sp A H q o u) : o = u := ((ZI.sp_ch s).resolve_right fun z => ZI.ch_fix h z.2).symm
theorem ZI.sp_lst {xs : List V} {o : HO} (s : ZI.sp A H q (.lst xs) o) : o = .lst xs := ZI.sp_fix rfl s
theorem ZI.sp_tup {xs : List V} {o : HO} (s : ZI.sp A H q (.tup xs) o) : o = .tup xs := ZI.sp_fix rfl s
theorem ZI.sp_dK {ws : List (Key × V)} {o : HO} (s : ZI.sp A H q (.dK ws) o) : o = .dK ws := ZI.sp_fix rfl s
theorem ZI.sp_frz {ob : Obj} {u o : HO} (s : ZI.sp A H q (.frz ob u) o) : o = .frz ob u := ZI.sp_fix rfl s
theorem dice_no {a : Addr} : ¬ ZI.ch (DiceO a) := fun z => by
  obtain ⟨h0, ⟨xs, its, n, _, _, e⟩, k⟩ := ZI.ch_ext (φ := fun h => ∃ (xs : List Int) (its : List Value) (n : Nat), DiceOk xs ∧ Vals (xs.map V.int) its ∧ h.get? a = some { cls := .type "list", data := .seq its.toArray n }) z
  obtain ⟨es, ep, q⟩ := k _ _ e
  cases q
theorem ZI.sp_dice {a : Addr} {o : HO} (s : ZI.sp A H q (DiceO a) o) : o = DiceO a := (ZI.sp_ch s).resolve_right fun z => dice_no z.1
end
/-- all objects stay, or what they stand for does -/
def ExN (B : Addr → Prop) (H H' : Hp) : Prop := ∀ b o, H b = some o → ∃ o', H' b = some o' ∧ sp B H' b o o'
section
variable {B B' : Addr → Prop} {H H1 H2 H' : Hp} {q : Addr}
theorem ExN.of (e : Ex H H') : ExN B H H' := fun b o h => ⟨o, e b o h, ZI.sp_rfl o⟩
theorem ExN.tupk (e : ExN B' H H') (k : ∀ x, B x → B' x) : TupK B H B' H' := fun a u ha hu ht => by
  obtain ⟨o', h', s⟩ := e a u hu
  have : o' = u := ZI.sp_fix (by cases u <;> first | rfl | cases ht) s
  rw [this] at h'
  exact ⟨k a ha, h'⟩
theorem ExN.trans (a : ExN B H H1) (b : ExN B' H1 H2) (k : ∀ x, B' x → B x) : ExN B H H2 := fun c o h => by
  obtain ⟨o1, h1, s1⟩ := a c o h
  obtain ⟨o2, h2, s2⟩ := b c o1 h1
  refine ⟨o2, h2, ZI.sp_trans s1 (fun x u hx hu ht => ?_) (ZI.sp_mono s2 fun x u hx hu ht => ⟨k x hx, hu⟩)⟩
  obtain ⟨o', h', s⟩ := b x u hu
  have : o' = u := ZI.sp_fix (by cases u <;> first | rfl | cases ht) s
  rw [this] at h'
  exact ⟨hx, h'⟩
theorem ExN.none (e : ExN B H H') (h : H' q = none) : H q = none := by
  cases k : H q with
  | none => rfl
  | some o => obtain ⟨o', h', _⟩ := e q o k; rw [h] at h'; cases h'
theorem ExN.dK (e : ExN B H H') {ws : List (Key × V)} (h : H q = some (.dK ws)) : H' q = some (.dK ws) := by
  obtain ⟨o', h', s⟩ := e q _ h
  rw [ZI.sp_dK s] at h'; exact h'
theorem ExN.frz (e : ExN B H H') {ob : Obj} {u : HO} (h : H q = some (.frz ob u)) : H' q = some (.frz ob u) := by
  obtain ⟨o', h', s⟩ := e q _ h
  rw [ZI.sp_frz s] at h'; exact h'
theorem ExN.at (e : ExN B H H') {o : HO} (h : H q = some o) (hd : ¬ ZI.ch o) : H' q = some o := by
  obtain ⟨o', h2, s⟩ := e q _ h
  rw [(ZI.sp_ch s).resolve_right fun z => hd z.1] at h2; exact h2
end
mutual
/-- v stands for the data, all of whose objects lie at places of A -/
def Fr (A : Addr → Prop) (H : Hp) : Dt → V → Prop
  | .non, v => v = .non
  | .bl b, v => v = .bl b
  | .int i, v => v = .int i
  | .str l, v => v = Tx l
  | .tup ds, v => ∃ a xs, v = .ref a ∧ A a ∧ Rd H a (.tup xs) ∧ FrAll A H ds xs
  | .tpk ds, v => ∃ (a : Addr) (xs : List V) (o : Obj), v = .ref a ∧ A a ∧ H a = some (.frz o (.tup xs)) ∧ o.dict = none ∧ FrAll A H ds xs
  | .lst ds, v => ∃ a xs, v = .ref a ∧ A a ∧ H a = some (.lst xs) ∧ FrAll A H ds xs
  | .dic ks ds, v => ∃ (a : Addr) (ws : List (Key × V)), v = .ref a ∧ A a ∧ Rd H a (.dK ws) ∧ ws.map (·.1) = ks ∧ FrAll A H ds (ws.map (·.2))
  | .dice, v => ∃ a, v = .ref a ∧ A a ∧ H a = some (DiceO a)
  | .val w, v => v = w
  | .ob i ds, v => ZI.ob i ds A H v
def FrAll (A : Addr → Prop) (H : Hp) : List Dt → List V → Prop
  | [], vs => vs = []
  | d :: ds, vs => ∃ v ws, vs = v :: ws ∧ Fr A H d v ∧ FrAll A H ds ws
end
mutual
theorem Fr.monoN {A A' : Addr → Prop} {H H' : Hp} (h : ∀ a o, A a → H a = some o → A' a ∧ ∃ o', H' a = some o' ∧ sp A' H' a o o') : ∀ {d : Dt} {v : V}, Fr A H d v → Fr A' H' d v
  | .non, _, r => r
  | .bl _, _, r => r
  | .int _, _, r => r
  | .str _, _, r => r
  | .val _, _, r => r
  | .ob _ _, _, r => ZI.ob_mono h r
  | .dice, _, r => by
    obtain ⟨a, e, ha, hh⟩ := r
    obtain ⟨h1, o', h2, s⟩ := h _ _ ha hh
    rw [ZI.sp_dice s] at h2
    exact ⟨a, e, h1, h2⟩
  | .tup ds, _, r => by
    obtain ⟨a, xs, e, ha, hh, k⟩ := r
    rcases hh with hh | ⟨o, hh⟩
    · obtain ⟨h1, o', h2, s⟩ := h _ _ ha hh
      rw [ZI.sp_tup s] at h2
      exact ⟨a, xs, e, h1, .inl h2, FrAll.monoN h k⟩
    · obtain ⟨h1, o', h2, s⟩ := h _ _ ha hh
      rw [ZI.sp_frz s] at h2
      exact ⟨a, xs, e, h1, .inr ⟨o, h2⟩, FrAll.monoN h k⟩
  | .tpk ds, _, r => by
    obtain ⟨a, xs, o, e, ha, hh, hd, k⟩ := r
    obtain ⟨h1, o', h2, s⟩ := h _ _ ha hh
    rw [ZI.sp_frz s] at h2
    exact ⟨a, xs, o, e, h1, h2, hd, FrAll.monoN h k⟩
  | .lst ds, _, r => by
    obtain ⟨a, xs, e, ha, hh, k⟩ := r
    obtain ⟨h1, o', h2, s⟩ := h _ _ ha hh
    rw [ZI.sp_lst s] at h2
    exact ⟨a, xs, e, h1, h2, FrAll.monoN h k⟩
  | .dic ks ds, _, r => by
    obtain ⟨a, xs, e, ha, hh, ek, k⟩ := r
    rcases hh with hh | ⟨o, hh⟩
    · obtain ⟨h1, o', h2, s⟩ := h _ _ ha hh
      rw [ZI.sp_dK s] at h2
      exact ⟨a, xs, e, h1, .inl h2, ek, FrAll.monoN h k⟩
    · obtain ⟨h1, o', h2, s⟩ := h _ _ ha hh
      rw [ZI.sp_frz s] at h2
      exact ⟨a, xs, e, h1, .inr ⟨o, h2⟩, ek, FrAll.monoN h k⟩
theorem FrAll.monoN {A A' : Addr → Prop} {H H' : Hp} (h : ∀ a o, A a → H a = some o → A' a ∧ ∃ o', H' a = some o' ∧ sp A' H' a o o') : ∀ {ds : List Dt} {vs : List V}, FrAll A H ds vs → FrAll A' H' ds vs
  | [], _, r => r
  | d :: ds, _, r => by
    obtain ⟨v, ws, e, h1, h2⟩ := r
    exact ⟨v, ws, e, Fr.monoN h h1, FrAll.monoN h h2⟩
end
theorem Fr.mono {A A' : Addr → Prop} {H H' : Hp} (h : ∀ a o, A a → H a = some o → A' a ∧ H' a = some o) {d : Dt} {v : V} (r : Fr A H d v) : Fr A' H' d v := r.monoN fun a o ha ho => ⟨(h a o ha ho).1, o, (h a o ha ho).2, ZI.sp_rfl o⟩
theorem FrAll.mono {A A' : Addr → Prop} {H H' : Hp} (h : ∀ a o, A a → H a = some o → A' a ∧ H' a = some o) {ds : List Dt} {vs : List V} (r : FrAll A H ds vs) : FrAll A' H' ds vs := r.monoN fun a o ha ho => ⟨(h a o ha ho).1, o, (h a o ha ho).2, ZI.sp_rfl o⟩
section
variable {A : Addr → Prop} {H : Hp}
theorem FrAll.nil : FrAll A H [] [] := rfl
theorem FrAll.cons {d : Dt} {v : V} {ds : List Dt} {vs : List V} (h : Fr A H d v) (k : FrAll A H ds vs) : FrAll A H (d :: ds) (v :: vs) := ⟨v, vs, rfl, h, k⟩
theorem FrAll.length : ∀ {ds : List Dt} {vs : List V}, FrAll A H ds vs → vs.length = ds.length
  | [], _, r => by cases r; rfl
  | d :: ds, _, r => by
    obtain ⟨v, ws, rfl, h1, h2⟩ := r
    simp [FrAll.length h2]
theorem FrAll.get : ∀ {ds : List Dt} {vs : List V} {i : Nat} {d : Dt}, FrAll A H ds vs → ds[i]? = some d → ∃ v, vs[i]? = some v ∧ Fr A H d v
  | [], _, i, d, r, h => by simp at h
  | e :: ds, _, i, d, r, h => by
    obtain ⟨v, ws, rfl, h1, h2⟩ := r
    cases i with
    | zero => simp at h; subst h; exact ⟨v, rfl, h1⟩
    | succ i => exact FrAll.get (i := i) h2 (by simpa using h)
theorem FrAll.get' {ds : List Dt} {vs : List V} {i : Nat} {v : V} (r : FrAll A H ds vs) (h : vs[i]? = some v) : ∃ d, ds[i]? = some d ∧ Fr A H d v := by
  have hi := (List.getElem?_eq_some_iff.mp h).1
  rw [r.length] at hi
  obtain ⟨w, hw, k⟩ := r.get (List.getElem?_eq_getElem hi)
  rw [h] at hw; cases hw
  exact ⟨_, List.getElem?_eq_getElem hi, k⟩
theorem FrAll.append : ∀ {ds es : List Dt} {vs ws : List V}, FrAll A H ds vs → FrAll A H es ws → FrAll A H (ds ++ es) (vs ++ ws)
  | [], _, _, _, r, k => by cases r; exact k
  | d :: ds, _, _, _, r, k => by
    obtain ⟨v, us, rfl, h1, h2⟩ := r
    exact ⟨v, _, rfl, h1, h2.append k⟩
theorem FrAll.of {ds : List Dt} : ∀ {vs : List V}, ds.length = vs.length → (∀ (i : Nat) (d : Dt) (v : V), ds[i]? = some d → vs[i]? = some v → Fr A H d v) → FrAll A H ds vs := by
  induction ds with
  | nil => intro vs hl _; exact List.eq_nil_of_length_eq_zero hl.symm
  | cons d ds ih =>
    intro vs hl h
    cases vs with
    | nil => cases hl
    | cons v vs => exact ⟨v, vs, rfl, h 0 d v rfl rfl, ih (by simpa using hl) fun i d v h1 h2 => h (i + 1) d v (by simpa using h1) (by simpa using h2)⟩
theorem FrAll.take {ds : List Dt} {vs : List V} (n : Nat) (r : FrAll A H ds vs) : FrAll A H (ds.take n) (vs.take n) := FrAll.of (by simp [r.length]) fun i d v h1 h2 => by
  rw [List.getElem?_take] at h1 h2
  split at h1
  · rw [if_pos (by assumption)] at h2
    obtain ⟨w, hw, k⟩ := r.get h1
    rw [h2] at hw; cases hw; exact k
  · cases h1
theorem FrAll.drop {ds : List Dt} {vs : List V} (n : Nat) (r : FrAll A H ds vs) : FrAll A H (ds.drop n) (vs.drop n) := FrAll.of (by simp [r.length]) fun i d v h1 h2 => by
  rw [List.getElem?_drop] at h1 h2
  obtain ⟨w, hw, k⟩ := r.get h1
  rw [h2] at hw; cases hw; exact k
theorem FrAll.reverse : ∀ {ds : List Dt} {vs : List V}, FrAll A H ds vs → FrAll A H ds.reverse vs.reverse
  | [], _, r => by cases r; exact rfl
  | d :: ds, _, r => by
    obtain ⟨v, us, rfl, h1, h2⟩ := r
    rw [List.reverse_cons, List.reverse_cons]
    exact h2.reverse.append (.cons h1 .nil)
theorem FrAll.set {ds : List Dt} {vs : List V} {d : Dt} {v : V} (n : Nat) (r : FrAll A H ds vs) (h : Fr A H d v) : FrAll A H (ds.set n d) (vs.set n v) := FrAll.of (by simp [r.length]) fun i d' v' h1 h2 => by
  rw [List.getElem?_set] at h1 h2
  by_cases c : n = i
  · rw [if_pos c] at h1 h2
    split at h1
    · rw [if_pos (by rw [r.length]; assumption)] at h2
      cases h1; cases h2; exact h
    · cases h1
  · rw [if_neg c] at h1 h2
    obtain ⟨w, hw, k⟩ := r.get h1
    rw [h2] at hw; cases hw; exact k
theorem FrAll.erase {ds : List Dt} {vs : List V} (n : Nat) (r : FrAll A H ds vs) : FrAll A H (ds.eraseIdx n) (vs.eraseIdx n) := by
  rw [List.eraseIdx_eq_take_drop_succ, List.eraseIdx_eq_take_drop_succ]
  exact (r.take n).append (r.drop (n + 1))
theorem FrAll.strs : ∀ (l : List (List Nat)), FrAll A H (l.map .str) (l.map fun x => Tx x)
  | [] => rfl
  | x :: l => ⟨_, _, rfl, rfl, FrAll.strs l⟩
theorem FrAll.strs_inv : ∀ {l : List (List Nat)} {vs : List V}, FrAll A H (l.map .str) vs → vs = l.map fun x => Tx x
  | [], _, r => r
  | x :: l, _, r => by
    obtain ⟨v, ws, rfl, h1, h2⟩ := r
    rw [FrAll.strs_inv h2]
    exact congrArg (· :: _) h1
theorem FrAll.bls_inv : ∀ {l : List Bool} {vs : List V}, FrAll A H (l.map .bl) vs → vs = l.map V.bl
  | [], _, r => r
  | x :: l, _, r => by
    obtain ⟨v, ws, rfl, h1, h2⟩ := r
    rw [FrAll.bls_inv h2]
    exact congrArg (· :: _) h1
end
mutual
/-- a dict is locked, or unlocked -/
theorem Fr.lock {A : Addr → Prop} {H H' : Hp} (h : ∀ a o, A a → H a = some o → (H' a = some o ∨ ∃ ws, Rd H a (.dK ws) ∧ Rd H' a (.dK ws))) : ∀ {d : Dt} {v : V}, Fr A H d v → Fr A H' d v
  | .non, _, r => r
  | .bl _, _, r => r
  | .int _, _, r => r
  | .str _, _, r => r
  | .val _, _, r => r
  | .ob _ _, _, r => ZI.ob_lock (fun a o ha ho => ⟨ha, h a o ha ho⟩) r
  | .dice, _, r => by
    obtain ⟨a, e, ha, hh⟩ := r
    rcases h _ _ ha hh with h2 | ⟨ws, h2 | ⟨o, h2⟩, _⟩
    · exact ⟨a, e, ha, h2⟩
    · rw [hh] at h2; cases h2
    · rw [hh] at h2; cases h2
  | .tup ds, _, r => by
    obtain ⟨a, xs, e, ha, hh, k⟩ := r
    refine ⟨a, xs, e, ha, ?_, FrAll.lock h k⟩
    rcases hh with hh | ⟨o1, hh⟩
    · rcases h _ _ ha hh with h2 | ⟨ws, h2 | ⟨o, h2⟩, _⟩
      · exact .inl h2
      · rw [hh] at h2; cases h2
      · rw [hh] at h2; cases h2
    · rcases h _ _ ha hh with h2 | ⟨ws, h2 | ⟨o, h2⟩, _⟩
      · exact .inr ⟨o1, h2⟩
      · rw [hh] at h2; cases h2
      · rw [hh] at h2; cases h2
  | .tpk ds, _, r => by
    obtain ⟨a, xs, o1, e, ha, hh, hd, k⟩ := r
    rcases h _ _ ha hh with h2 | ⟨ws, h2 | ⟨o, h2⟩, _⟩
    · exact ⟨a, xs, o1, e, ha, h2, hd, FrAll.lock h k⟩
    · rw [hh] at h2; cases h2
    · rw [hh] at h2; cases h2
  | .lst ds, _, r => by
    obtain ⟨a, xs, e, ha, hh, k⟩ := r
    rcases h _ _ ha hh with h2 | ⟨ws, h2 | ⟨o, h2⟩, _⟩
    · exact ⟨a, xs, e, ha, h2, FrAll.lock h k⟩
    · rw [hh] at h2; cases h2
    · rw [hh] at h2; cases h2
  | .dic ks ds, _, r => by
    obtain ⟨a, xs, e, ha, hh, ek, k⟩ := r
    refine ⟨a, xs, e, ha, ?_, ek, FrAll.lock h k⟩
    have key : ∀ o, H a = some o → Rd H' a (.dK xs) := fun o ho => by
      rcases h _ _ ha ho with h2 | ⟨ws, h2, h3⟩
      · rcases hh with hh | ⟨o', hh⟩
        · rw [ho] at hh; cases hh; exact .inl h2
        · rw [ho] at hh; cases hh; exact .inr ⟨_, h2⟩
      · have : ws = xs := by
          rcases hh with hh | ⟨o1, hh⟩ <;> rcases h2 with h2 | ⟨o2, h2⟩ <;> rw [hh] at h2 <;> cases h2 <;> rfl
        subst this
        exact h3
    rcases hh with hh | ⟨o, hh⟩
    · exact key _ hh
    · exact key _ hh
theorem FrAll.lock {A : Addr → Prop} {H H' : Hp} (h : ∀ a o, A a → H a = some o → (H' a = some o ∨ ∃ ws, Rd H a (.dK ws) ∧ Rd H' a (.dK ws))) : ∀ {ds : List Dt} {vs : List V}, FrAll A H ds vs → FrAll A H' ds vs
  | [], _, r => r
  | d :: ds, _, r => by
    obtain ⟨v, ws, e, h1, h2⟩ := r
    exact ⟨v, ws, e, Fr.lock h h1, FrAll.lock h h2⟩
end
theorem Fr.dom {A : Addr → Prop} {H : Hp} {d : Dt} {v : V} (r : Fr A H d v) : Fr (fun a => A a ∧ H a ≠ none) H d v := r.mono fun a o ha ho => ⟨⟨ha, by rw [ho]; simp⟩, ho⟩
theorem FrAll.dom {A : Addr → Prop} {H : Hp} {d : List Dt} {v : List V} (r : FrAll A H d v) : FrAll (fun a => A a ∧ H a ≠ none) H d v := r.mono fun a o ha ho => ⟨⟨ha, by rw [ho]; simp⟩, ho⟩
/-- an object of one's own -/
def At (A : Addr → Prop) (H : Hp) : Dt → Addr → Prop
  | .lst ds, p => ∃ xs, H p = some (.lst xs) ∧ FrAll A H ds xs
  | .dic ks ds, p => ∃ ws : List (Key × V), H p = some (.dK ws) ∧ ws.map (·.1) = ks ∧ FrAll A H ds (ws.map (·.2))
  | _, _ => False
theorem At.to_fr {A : Addr → Prop} {H : Hp} {d : Dt} {p : Addr} (h : At A H d p) (hp : A p) : Fr A H d (.ref p) := by
  cases d <;> try exact h.elim
  · obtain ⟨xs, h1, h2⟩ := h
    exact ⟨p, xs, rfl, hp, h1, h2⟩
  · obtain ⟨xs, h1, h2, h3⟩ := h
    exact ⟨p, xs, rfl, hp, .inl h1, h2, h3⟩
theorem At.monoN {A A' : Addr → Prop} {H H' : Hp} {d : Dt} {p : Addr} (h : At A H d p) (k : ∀ a o, A a → H a = some o → A' a ∧ ∃ o', H' a = some o' ∧ sp A' H' a o o') (kp : ∀ o, H p = some o → ∃ o', H' p = some o' ∧ sp A' H' p o o') : At A' H' d p := by
  cases d <;> try exact h.elim
  · obtain ⟨xs, h1, h2⟩ := h
    obtain ⟨o', h3, s⟩ := kp _ h1
    rw [ZI.sp_lst s] at h3
    exact ⟨xs, h3, h2.monoN k⟩
  · obtain ⟨xs, h1, h2, h3⟩ := h
    obtain ⟨o', h4, s⟩ := kp _ h1
    rw [ZI.sp_dK s] at h4
    exact ⟨xs, h4, h2, h3.monoN k⟩
theorem At.mono {A A' : Addr → Prop} {H H' : Hp} {d : Dt} {p : Addr} (h : At A H d p) (k : ∀ a o, A a → H a = some o → A' a ∧ H' a = some o) (kp : ∀ o, H p = some o → H' p = some o) : At A' H' d p :=
  h.monoN (fun a o ha ho => ⟨(k a o ha ho).1, o, (k a o ha ho).2, ZI.sp_rfl o⟩) fun o ho => ⟨o, kp o ho, ZI.sp_rfl o⟩
/-- a list or a dict stands there -/
theorem At.kind {A : Addr → Prop} {H : Hp} {d : Dt} {p : Addr} (h : At A H d p) : (∃ xs, H p = some (.lst xs)) ∨ ∃ ws, H p = some (.dK ws) := by
  cases d <;> try exact h.elim
  · obtain ⟨xs, h1, h2⟩ := h
    exact .inl ⟨xs, h1⟩
  · obtain ⟨xs, h1, h2, h3⟩ := h
    exact .inr ⟨xs, h1⟩
theorem At.some {A : Addr → Prop} {H : Hp} {d : Dt} {p : Addr} (h : At A H d p) : H p ≠ none := by
  cases d <;> try exact h.elim
  · obtain ⟨xs, h1, h2⟩ := h
    rw [h1]; simp
  · obtain ⟨xs, h1, h2, h3⟩ := h
    rw [h1]; simp
/-- kinds of objects that may be owned -/
def ownO : HO → Bool
  | .lst _ => true
  | .dK _ => true
  | .ins _ _ _ => true
  | _ => false
/-- kinds that stay, whatever else happens -/
def stayO : HO → Bool
  | .lst _ => true
  | .tup _ => true
  | .frz _ (.tup _) => true
  | _ => false
mutual
/-- data without dicts and special objects -/
def FrS (A : Addr → Prop) (H : Hp) : Dt → V → Prop
  | .non, v => v = .non
  | .bl b, v => v = .bl b
  | .int i, v => v = .int i
  | .str l, v => v = Tx l
  | .tup ds, v => ∃ a xs, v = .ref a ∧ A a ∧ Rd H a (.tup xs) ∧ FrSs A H ds xs
  | .tpk ds, v => ∃ (a : Addr) (xs : List V) (o : Obj), v = .ref a ∧ A a ∧ H a = some (.frz o (.tup xs)) ∧ o.dict = none ∧ FrSs A H ds xs
  | .lst ds, v => ∃ a xs, v = .ref a ∧ A a ∧ H a = some (.lst xs) ∧ FrSs A H ds xs
  | .dic _ _, _ => False
  | .dice, _ => False
  | .val _, _ => False
  | .ob _ _, _ => False
def FrSs (A : Addr → Prop) (H : Hp) : List Dt → List V → Prop
  | [], vs => vs = []
  | d :: ds, vs => ∃ v ws, vs = v :: ws ∧ FrS A H d v ∧ FrSs A H ds ws
end
mutual
theorem FrS.mono {A A' : Addr → Prop} {H H' : Hp} (h : ∀ a o, A a → H a = some o → stayO o = true → A' a ∧ H' a = some o) : ∀ {d : Dt} {v : V}, FrS A H d v → FrS A' H' d v
  | .non, _, r => r
  | .bl _, _, r => r
  | .int _, _, r => r
  | .str _, _, r => r
  | .tup ds, _, ⟨a, xs, e, ha, hh, k⟩ => by
    rcases hh with hh | ⟨o, hh⟩
    · obtain ⟨h1, h2⟩ := h _ _ ha hh rfl
      exact ⟨a, xs, e, h1, .inl h2, FrSs.mono h k⟩
    · obtain ⟨h1, h2⟩ := h _ _ ha hh rfl
      exact ⟨a, xs, e, h1, .inr ⟨o, h2⟩, FrSs.mono h k⟩
  | .tpk ds, _, ⟨a, xs, o, e, ha, hh, hd, k⟩ => by
    obtain ⟨h1, h2⟩ := h _ _ ha hh rfl
    exact ⟨a, xs, o, e, h1, h2, hd, FrSs.mono h k⟩
  | .lst ds, _, ⟨a, xs, e, ha, hh, k⟩ => by
    obtain ⟨h1, h2⟩ := h _ _ ha hh rfl
    exact ⟨a, xs, e, h1, h2, FrSs.mono h k⟩
  | .dic _ _, _, r => False.elim r
  | .dice, _, r => False.elim r
  | .val _, _, r => False.elim r
  | .ob _ _, _, r => False.elim r
theorem FrSs.mono {A A' : Addr → Prop} {H H' : Hp} (h : ∀ a o, A a → H a = some o → stayO o = true → A' a ∧ H' a = some o) : ∀ {ds : List Dt} {vs : List V}, FrSs A H ds vs → FrSs A' H' ds vs
  | [], _, r => r
  | _ :: _, _, ⟨v, ws, e, h1, h2⟩ => ⟨v, ws, e, FrS.mono h h1, FrSs.mono h h2⟩
end
mutual
theorem FrS.fr {A : Addr → Prop} {H : Hp} : ∀ {d : Dt} {v : V}, FrS A H d v → Fr A H d v
  | .non, _, r => r
  | .bl _, _, r => r
  | .int _, _, r => r
  | .str _, _, r => r
  | .tup ds, _, ⟨a, xs, e, ha, hh, k⟩ => ⟨a, xs, e, ha, hh, FrSs.fr k⟩
  | .tpk ds, _, ⟨a, xs, o, e, ha, hh, hd, k⟩ => ⟨a, xs, o, e, ha, hh, hd, FrSs.fr k⟩
  | .lst ds, _, ⟨a, xs, e, ha, hh, k⟩ => ⟨a, xs, e, ha, hh, FrSs.fr k⟩
  | .dic _ _, _, r => False.elim r
  | .dice, _, r => False.elim r
  | .val _, _, r => False.elim r
  | .ob _ _, _, r => False.elim r
theorem FrSs.fr {A : Addr → Prop} {H : Hp} : ∀ {ds : List Dt} {vs : List V}, FrSs A H ds vs → FrAll A H ds vs
  | [], _, r => r
  | _ :: _, _, ⟨v, ws, e, h1, h2⟩ => ⟨v, ws, e, FrS.fr h1, FrSs.fr h2⟩
end
/-- an object of one's own with data that stay -/
def AtS (A : Addr → Prop) (H : Hp) : Dt → Addr → Prop
  | .lst ds, p => ∃ xs, H p = some (.lst xs) ∧ FrSs A H ds xs
  | .dic ks ds, p => ∃ ws : List (Key × V), H p = some (.dK ws) ∧ ws.map (·.1) = ks ∧ FrSs A H ds (ws.map (·.2))
  | _, _ => False
theorem AtS.at {A : Addr → Prop} {H : Hp} {d : Dt} {p : Addr} (h : AtS A H d p) : At A H d p := by
  cases d <;> try exact h.elim
  · obtain ⟨xs, h1, h2⟩ := h
    exact ⟨xs, h1, h2.fr⟩
  · obtain ⟨xs, h1, h2, h3⟩ := h
    exact ⟨xs, h1, h2, h3.fr⟩
theorem AtS.mono {A A' : Addr → Prop} {H H' : Hp} {d : Dt} {p : Addr} (h : AtS A H d p) (k : ∀ a o, A a → H a = some o → stayO o = true → A' a ∧ H' a = some o) (kp : ∀ o, H p = some o → H' p = some o) : AtS A' H' d p := by
  cases d <;> try exact h.elim
  · obtain ⟨xs, h1, h2⟩ := h
    exact ⟨xs, kp _ h1, h2.mono k⟩
  · obtain ⟨xs, h1, h2, h3⟩ := h
    exact ⟨xs, kp _ h1, h2, h3.mono k⟩
/-- parts of a cluster: frozen data, or lists of one's own -/
def ChS (A : Addr → Prop) (H : Hp) : List (Bool × Dt) → List V → List Addr → Prop
  | [], xs, qs => xs = [] ∧ qs = []
  | (b, d) :: ts, xs, qs => ∃ x xs', xs = x :: xs' ∧ ((b = false ∧ FrS A H d x ∧ ChS A H ts xs' qs) ∨ (b = true ∧ ∃ q qs', x = .ref q ∧ qs = q :: qs' ∧ AtS A H d q ∧ ChS A H ts xs' qs'))
theorem ChS.mono {A A' : Addr → Prop} {H H' : Hp} (k : ∀ a o, A a → H a = some o → stayO o = true → A' a ∧ H' a = some o) : ∀ {ts : List (Bool × Dt)} {xs : List V} {qs : List Addr}, (∀ q ∈ qs, ∀ o, H q = some o → H' q = some o) → ChS A H ts xs qs → ChS A' H' ts xs qs
  | [], _, _, _, h => h
  | (b, d) :: ts, _, qs, kq, ⟨x, xs', e, h⟩ => ⟨x, xs', e, h.imp (fun ⟨e1, h1, h2⟩ => ⟨e1, h1.mono k, ChS.mono k kq h2⟩) fun ⟨e1, q, qs', e2, e3, h1, h2⟩ => ⟨e1, q, qs', e2, e3, h1.mono k (kq q (by rw [e3]; exact List.mem_cons_self ..)), ChS.mono k (fun r hr => kq r (by rw [e3]; exact List.mem_cons_of_mem _ hr)) h2⟩⟩
theorem ChS.own {A : Addr → Prop} {H : Hp} : ∀ {ts : List (Bool × Dt)} {xs : List V} {qs : List Addr}, ChS A H ts xs qs → ∀ q ∈ qs, ∃ o, H q = some o ∧ ownO o = true
  | [], _, _, ⟨_, e⟩, q, hq => by rw [e] at hq; cases hq
  | (b, d) :: ts, _, _, ⟨x, xs', e, .inl ⟨_, _, h⟩⟩, q, hq => ChS.own h q hq
  | (b, d) :: ts, _, _, ⟨x, xs', e, .inr ⟨_, r, qs', _, e3, h1, h2⟩⟩, q, hq => by
    rw [e3] at hq
    rcases List.mem_cons.mp hq with rfl | hq
    · cases d <;> try exact h1.elim
      · obtain ⟨ys, h3, _⟩ := h1
        exact ⟨_, h3, rfl⟩
      · obtain ⟨ys, h3, _⟩ := h1
        exact ⟨_, h3, rfl⟩
    · exact ChS.own h2 q hq
theorem ChS.length {A : Addr → Prop} {H : Hp} : ∀ {ts : List (Bool × Dt)} {xs : List V} {qs : List Addr}, ChS A H ts xs qs → xs.length = ts.length
  | [], _, _, ⟨e, _⟩ => by rw [e]; rfl
  | (b, d) :: ts, _, _, ⟨x, xs', e, .inl ⟨_, _, h⟩⟩ => by rw [e, List.length_cons, List.length_cons, ChS.length h]
  | (b, d) :: ts, _, _, ⟨x, xs', e, .inr ⟨_, r, qs', _, e3, h1, h2⟩⟩ => by rw [e, List.length_cons, List.length_cons, ChS.length h2]
/-- how many parts of one's own stand ahead -/
def rkB (ts : List (Bool × Dt)) (j : Nat) : Nat := (ts.take j).countP (·.1)
theorem ChS.get {A : Addr → Prop} {H : Hp} {d : Dt} : ∀ {ts : List (Bool × Dt)} {xs : List V} {qs : List Addr} {j : Nat}, ChS A H ts xs qs → ts[j]? = some (true, d) → ∃ q, xs[j]? = some (.ref q) ∧ qs[rkB ts j]? = some q ∧ AtS A H d q
  | [], _, _, j, _, e => by simp at e
  | (b, d0) :: ts, _, _, 0, ⟨x, xs', ex, h⟩, e => by
    simp at e
    obtain ⟨rfl, rfl⟩ := e
    rcases h with ⟨z, _⟩ | ⟨_, q, qs', e2, e3, h1, h2⟩
    · cases z
    · subst ex e2 e3
      exact ⟨q, rfl, rfl, h1⟩
  | (b, d0) :: ts, _, _, j + 1, ⟨x, xs', ex, h⟩, e => by
    have e : ts[j]? = some (true, d) := by simpa using e
    rcases h with ⟨rfl, _, h2⟩ | ⟨rfl, q, qs', e2, e3, h1, h2⟩
    · obtain ⟨r, g1, g2, g3⟩ := ChS.get h2 e
      subst ex
      exact ⟨r, by simpa using g1, by unfold rkB at g2 ⊢; simpa using g2, g3⟩
    · obtain ⟨r, g1, g2, g3⟩ := ChS.get h2 e
      subst ex e3
      refine ⟨r, by simpa using g1, ?_, g3⟩
      have : rkB ((true, d0) :: ts) (j + 1) = rkB ts j + 1 := by unfold rkB; rw [List.take_succ_cons, List.countP_cons]; simp
      rw [this]
      simpa using g2
/-- an object of an own class: its class, its dict, where it stands, its fields in turn -/
structure ObD where
  C : Addr
  dx : Addr
  p : Addr
  ns : List (List Nat)
  ts : List (Bool × Dt)
  qs : List Addr
@[reducible] def ObD.nm (o : ObD) : List Str := o.ns.map S
/-- several objects of one's own, under one value -/
structure Cl where
  v : V
  as : List Addr
  φ : (Addr → Prop) → Hp → Prop
  lk : Dt → V → Prop := fun _ _ => False
  dv : Option Dt := none
  own : ∀ {A : Addr → Prop} {H : Hp}, φ A H → ∀ q ∈ as, ∃ o, H q = some o ∧ ownO o = true
  mono : ∀ {A A' : Addr → Prop} {H H' : Hp}, (∀ a o, A a → H a = some o → stayO o = true → A' a ∧ H' a = some o) → (∀ q ∈ as, ∀ o, H q = some o → H' q = some o) → φ A H → φ A' H'
  look : ∀ {A : Addr → Prop} {H : Hp} {d : Dt} {w : V}, φ A H → lk d w → ∃ p, w = .ref p ∧ p ∈ as ∧ AtS A H d p := by intro _ _ _ _ _ h; exact h.elim
  data : ∀ {A B : Addr → Prop} {H : Hp} {d : Dt}, φ A H → dv = some d → (∀ a, A a → B a) → (∀ q ∈ as, B q) → FrS B H d v := by intro _ _ _ _ _ h; cases h
  od : Option ObD := none
  obl : ∀ {A : Addr → Prop} {H : Hp} {o : ObD}, φ A H → od = some o → (v = .ref o.p ∧ as = o.p :: o.qs ∧ ∀ (j : Nat) (q : Addr) (d : Dt), o.ts[j]? = some (true, d) → o.qs[rkB o.ts j]? = some q → lk d (.ref q)) ∧ ∃ xs : List V, H o.p = some (.ins o.C o.dx (o.nm.zip xs)) ∧ ChS A H o.ts xs o.qs := by intro _ _ _ _ h; cases h
inductive Sl where
  | un | fz (d : Dt) | ow (d : Dt) | cl (C : Cl)
abbrev PSt := List Sl
abbrev Pc := Sl × Option V
def ownA : Pc → List Addr
  | (.ow _, some (.ref p)) => [p]
  | (.cl C, _) => C.as
  | _ => []
def owns (L : List Pc) : List Addr := L.flatMap ownA
/-- where a def's walk stands: the heap at first, the places that its data may lie at -/
structure Ctx where
  H0 : Hp
  B : Addr → Prop
  nb : ∀ a, H0 a = none → B a
  Zd : Addr → Prop
  zd : ∀ a, Zd a → H0 a ≠ none
/-- objects that may be special ones -/
def zO : HO → Bool
  | .lst _ => false
  | .dK _ => false
  | .frz _ _ => false
  | .ins _ _ _ => false
  | _ => true
/-- what is always so of the special objects: those at first, and new ones -/
def Iv (c : Ctx) (H : Hp) : Prop := ∃ Hz, ZI.Z Hz ∧ ∀ b o, Hz b = some o → H b = some o ∧ zO o = true ∧ (c.Zd b ∨ c.H0 b = none)
theorem Iv.ex {c : Ctx} {H H' : Hp} (h : Iv c H) (e : Ex H H') : Iv c H' := by
  obtain ⟨Hz, h1, h2⟩ := h
  exact ⟨Hz, h1, fun b o k => ⟨e _ _ (h2 b o k).1, (h2 b o k).2⟩⟩
/-- an object that is no special one is changed -/
theorem Iv.exB {c : Ctx} {H H' : Hp} {p : Addr} (h : Iv c H) (e : ExB p H H') (hp : (∃ o, H p = some o ∧ zO o = false) ∨ (¬ c.Zd p ∧ c.H0 p ≠ none)) : Iv c H' := by
  obtain ⟨Hz, h1, h2⟩ := h
  refine ⟨Hz, h1, fun b o k => ?_⟩
  obtain ⟨g1, g2, g3⟩ := h2 b o k
  refine ⟨e _ _ (fun z => ?_) g1, g2, g3⟩
  subst z
  rcases hp with ⟨u, q1, q2⟩ | ⟨q1, q2⟩
  · rw [g1] at q1
    cases q1
    rw [g2] at q2
    cases q2
  · rcases g3 with g3 | g3
    · exact q1 g3
    · exact q2 g3
def Al (c : Ctx) (L : List Pc) (a : Addr) : Prop := c.B a ∧ a ∉ owns L
def PcOk (c : Ctx) (A : Addr → Prop) (H : Hp) : Pc → Prop
  | (.un, _) => True
  | (.fz d, some v) => Fr A H d v
  | (.ow d, some (.ref p)) => c.H0 p = none ∧ At A H d p
  | (.cl C, some v) => v = C.v ∧ (∀ q ∈ C.as, c.H0 q = none) ∧ C.φ A H
  | _ => False
theorem fix_own {o : HO} (h : ownO o = true) : fixO o = true := by cases o <;> first | rfl | cases h
theorem fix_stay {o : HO} (h : stayO o = true) : fixO o = true := by cases o <;> first | rfl | cases h
theorem PcOk.monoN {c : Ctx} {A A' : Addr → Prop} {H H' : Hp} {x : Pc} (h : PcOk c A H x) (k : ∀ a o, A a → H a = some o → A' a ∧ ∃ o', H' a = some o' ∧ sp A' H' a o o') (kp : ∀ p, p ∈ ownA x → ∀ o, H p = some o → ∃ o', H' p = some o' ∧ sp A' H' p o o') : PcOk c A' H' x := by
  obtain ⟨s, v⟩ := x
  cases s with
  | un => trivial
  | fz d => cases v with
    | none => exact h.elim
    | some v => exact Fr.monoN k h
  | ow d => cases v with
    | none => exact h.elim
    | some v =>
      cases v <;> try exact h.elim
      exact ⟨h.1, h.2.monoN k (kp _ (List.mem_singleton.mpr rfl))⟩
  | cl C => cases v with
    | none => exact h.elim
    | some v =>
      refine ⟨h.1, h.2.1, C.mono (fun a o ha ho hs => ?_) (fun q hq o ho => ?_) h.2.2⟩
      · obtain ⟨h1, o', h2, s⟩ := k a o ha ho
        rw [ZI.sp_fix (fix_stay hs) s] at h2
        exact ⟨h1, h2⟩
      · obtain ⟨o', h2, s⟩ := kp q hq o ho
        obtain ⟨o1, g1, g2⟩ := C.own h.2.2 q hq
        rw [ho] at g1
        cases g1
        rw [ZI.sp_fix (fix_own g2) s] at h2
        exact h2
theorem PcOk.mono {c : Ctx} {A A' : Addr → Prop} {H H' : Hp} {x : Pc} (h : PcOk c A H x) (k : ∀ a o, A a → H a = some o → A' a ∧ H' a = some o) (kp : ∀ p, p ∈ ownA x → ∀ o, H p = some o → H' p = some o) : PcOk c A' H' x :=
  h.monoN (fun a o ha ho => ⟨(k a o ha ho).1, o, (k a o ha ho).2, ZI.sp_rfl o⟩) fun p hp o ho => ⟨o, kp p hp o ho, ZI.sp_rfl o⟩
theorem owns_sub {L L' : List Pc} (e : L'.Sublist L) : (owns L').Sublist (owns L) := by
  induction e with
  | slnil => exact List.Sublist.refl _
  | cons a _ ih => exact ih.trans (List.sublist_append_right _ _)
  | cons_cons a _ ih => exact (List.Sublist.refl _).append ih
theorem mem_owns {L : List Pc} {x : Pc} {q : Addr} (hx : x ∈ L) (hq : q ∈ ownA x) : q ∈ owns L := List.mem_flatMap.mpr ⟨x, hx, hq⟩
theorem owns_app (L L' : List Pc) : owns (L ++ L') = owns L ++ owns L' := List.flatMap_append ..
structure RelL (c : Ctx) (L : List Pc) (H : Hp) : Prop where
  nd : (owns L).Nodup
  ok : ∀ x ∈ L, PcOk c (Al c L) H x
  old : ExN c.B c.H0 H
  iv : Iv c H
section
variable {c : Ctx} {L L' : List Pc} {H H' : Hp} {x : Pc} {d d' : Dt} {v : V} {p : Addr}
theorem RelL.perm (h : RelL c L H) (e : L.Perm L') : RelL c L' H := by
  have ep : (owns L).Perm (owns L') := e.flatMap_right _
  refine ⟨ep.nodup_iff.mp h.nd, fun x hx => (h.ok x (e.mem_iff.mpr hx)).mono (fun a o ha ho => ⟨⟨ha.1, fun z => ha.2 (ep.mem_iff.mpr z)⟩, ho⟩) fun _ _ _ q => q, h.old, h.iv⟩
theorem RelL.sub (h : RelL c L H) (e : L'.Sublist L) : RelL c L' H := by
  have ep : (owns L').Sublist (owns L) := owns_sub e
  exact ⟨ep.nodup h.nd, fun x hx => (h.ok x (e.subset hx)).mono (fun a o ha ho => ⟨⟨ha.1, fun z => ha.2 (ep.subset z)⟩, ho⟩) fun _ _ _ q => q, h.old, h.iv⟩
theorem RelL.drop (h : RelL c (x :: L) H) : RelL c L H := h.sub (List.sublist_cons_self _ _)
theorem pc_own {A : Addr → Prop} {q : Addr} (h : PcOk c A H x) (e : q ∈ ownA x) : c.H0 q = none ∧ ∃ o, H q = some o ∧ ownO o = true := by
  obtain ⟨s, w⟩ := x
  cases s with
  | un => cases e
  | fz d => cases e
  | ow d => cases w with
    | none => cases e
    | some w =>
      cases w <;> try (cases e; done)
      cases List.mem_singleton.mp e
      refine ⟨h.1, ?_⟩
      rcases h.2.kind with ⟨xs, q⟩ | ⟨ws, q⟩
      · exact ⟨_, q, rfl⟩
      · exact ⟨_, q, rfl⟩
  | cl C => cases w with
    | none => exact h.elim
    | some w => exact ⟨h.2.1 _ e, C.own h.2.2 _ e⟩
theorem owns_ob {q : Addr} (h : RelL c L H) (hq : q ∈ owns L) : c.H0 q = none ∧ ∃ o, H q = some o ∧ ownO o = true := by
  obtain ⟨x, hx, e⟩ := List.mem_flatMap.mp hq
  exact pc_own (h.ok x hx) e
theorem owns_in {q : Addr} (h : RelL c L H) (hq : q ∈ owns L) : c.H0 q = none ∧ H q ≠ none := by
  obtain ⟨h1, o, h2, _⟩ := owns_ob h hq
  exact ⟨h1, by rw [h2]; simp⟩
theorem RelL.ex (h : RelL c L H) (e : Ex H H') : RelL c L H' :=
  ⟨h.nd, fun x hx => (h.ok x hx).mono (fun a o ha ho => ⟨ha, e _ _ ho⟩) fun _ _ _ q => e _ _ q, h.old.trans (.of (B := c.B) e) (fun _ z => z), h.iv.ex e⟩
/-- what is owned is no tuple -/
theorem owns_no (h : RelL c L H) {q : Addr} (hq : q ∈ owns L) {u : HO} (hu : H q = some u) : tupO u = false := by
  obtain ⟨_, o, h1, h2⟩ := owns_ob h hq
  rw [hu] at h1
  cases h1
  cases u <;> first | rfl | cases h2
theorem RelL.tupk {B : Addr → Prop} (h : RelL c L H) (e : ExN B H H') (k : ∀ x, B x → c.B x) : TupK B H' (Al c L) H' := fun a u ha hu ht => ⟨⟨k a ha, fun hm => by
    obtain ⟨q1, q2⟩ := owns_in h hm
    cases q : H a with
    | none => exact q2 q
    | some o =>
      obtain ⟨o', g1, g2⟩ := e a o q
      rw [hu] at g1
      cases g1
      have : o = u := ZI.sp_fix' (by cases u <;> first | rfl | cases ht) g2
      have := owns_no h hm (this ▸ q)
      rw [this] at ht; cases ht⟩, hu⟩
theorem RelL.exN {B : Addr → Prop} (h : RelL c L H) (e : ExN B H H') (k : ∀ x, B x → c.B x) (i : Iv c H') : RelL c L H' := by
  have key := h.tupk e k
  have e2 : ∀ b o, H b = some o → ∃ o', H' b = some o' ∧ sp (Al c L) H' b o o' := fun b o hb => let ⟨o', g1, g2⟩ := e b o hb; ⟨o', g1, ZI.sp_mono g2 key⟩
  exact ⟨h.nd, fun x hx => (h.ok x hx).monoN (fun a o ha ho => ⟨ha, e2 a o ho⟩) fun p _ o q => e2 p o q, h.old.trans e k, i⟩
theorem RelL.fr (h : RelL c L H) (r : Fr (Al c L) H d v) : RelL c ((.fz d, some v) :: L) H :=
  ⟨h.nd, fun x hx => by
    rcases List.mem_cons.mp hx with rfl | hx
    · exact r
    · exact h.ok x hx, h.old, h.iv⟩
theorem RelL.h0 (h : RelL c L H) {q : Addr} (hq : H q = none) : c.H0 q = none := h.old.none hq
theorem RelL.new (h : RelL c L H) (e : Ex H H') (hp : H p = none) (r : At (fun a => Al c L a ∧ a ≠ p) H' d p) : RelL c ((.ow d, some (.ref p)) :: L) H' := by
  have hn : p ∉ owns L := fun z => (owns_in h z).2 hp
  have eo : owns ((.ow d, some (.ref p)) :: L) = p :: owns L := rfl
  have al : ∀ a, Al c L a ∧ a ≠ p → Al c ((.ow d, some (.ref p)) :: L) a := fun a ⟨z1, z2⟩ => ⟨z1.1, by rw [eo]; exact fun q => (List.mem_cons.mp q).elim z2 z1.2⟩
  refine ⟨by rw [eo]; exact List.nodup_cons.mpr ⟨hn, h.nd⟩, fun x hx => ?_, h.old.trans (.of (B := c.B) e) (fun _ z => z), h.iv.ex e⟩
  rcases List.mem_cons.mp hx with rfl | hx
  · exact ⟨h.h0 hp, r.mono (fun a o ha ho => ⟨al a ha, ho⟩) fun _ q => q⟩
  · exact (h.ok x hx).mono (fun a o ha ho => ⟨al a ⟨ha, fun z => by subst z; rw [hp] at ho; cases ho⟩, e _ _ ho⟩) fun _ _ _ q => e _ _ q
/-- what is owned is frozen -/
theorem RelL.fz (h : RelL c ((.ow d, some v) :: L) H) : RelL c ((.fz d, some v) :: L) H := by
  have h1 := h.ok _ (List.mem_cons_self ..)
  cases v <;> try exact h1.elim
  rename_i p
  obtain ⟨q1, q2⟩ := h1
  have eo : owns ((.ow d, some (.ref p)) :: L) = p :: owns L := rfl
  have hd := h.nd
  rw [eo] at hd
  refine h.drop.fr ((q2.mono (fun a o ha ho => ⟨?_, ho⟩) fun _ q => q).to_fr ⟨c.nb _ q1, (List.nodup_cons.mp hd).1⟩)
  exact ⟨ha.1, fun z => ha.2 (by rw [eo]; exact List.mem_cons_of_mem _ z)⟩
theorem RelL.own_at (h : RelL c ((.ow d, some v) :: L) H) : ∃ p, v = .ref p ∧ c.H0 p = none ∧ At (Al c ((.ow d, some v) :: L)) H d p := by
  have h1 := h.ok _ (List.mem_cons_self ..)
  cases v <;> try exact h1.elim
  exact ⟨_, rfl, h1.1, h1.2⟩
/-- the owned object is changed -/
theorem RelL.mut (h : RelL c ((.ow d, some (.ref p)) :: L) H) (e : ExB p H H') (r : At (Al c ((.ow d, some (.ref p)) :: L)) H' d' p) : RelL c ((.ow d', some (.ref p)) :: L) H' := by
  have eo : ∀ d, owns ((.ow d, some (.ref p)) :: L) = p :: owns L := fun _ => rfl
  have hd := h.nd
  rw [eo] at hd
  have h1 := h.ok _ (List.mem_cons_self ..)
  have e1 : Al c ((.ow d, some (.ref p)) :: L) = Al c ((.ow d', some (.ref p)) :: L) := by
    funext a; unfold Al; rw [eo, eo]
  refine ⟨by rw [eo]; exact hd, fun x hx => ?_, fun b o hb => ?_, h.iv.exB e (.inl ?_)⟩
  · rcases List.mem_cons.mp hx with rfl | hx2
    · exact ⟨h1.1, e1 ▸ r⟩
    rw [← e1]
    refine (h.ok x (List.mem_cons_of_mem _ hx2)).mono (fun a o ha ho => ⟨ha, e _ _ (fun z => ha.2 (by rw [eo, z]; exact List.mem_cons_self ..)) ho⟩) fun q hq o ho => e _ _ (fun z => ?_) ho
    subst z
    exact (List.nodup_cons.mp hd).1 (mem_owns hx2 hq)
  · obtain ⟨o', g1, g2⟩ := h.old _ _ hb
    refine ⟨o', e b o' (fun z => by subst z; rw [h1.1] at hb; cases hb) g1, ZI.sp_mono g2 fun x u hx hu ht => ⟨hx, e x u (fun z => ?_) hu⟩⟩
    subst z
    have := owns_no h (by rw [eo]; exact List.mem_cons_self ..) hu
    rw [this] at ht; cases ht
  · rcases h1.2.kind with ⟨xs, q⟩ | ⟨ws, q⟩
    · exact ⟨_, q, rfl⟩
    · exact ⟨_, q, rfl⟩
/-- what a callee gives, or any operation that changes nothing -/
def subCtx (c : Ctx) (L : List Pc) (H : Hp) : Ctx := ⟨H, fun a => Al c L a ∨ H a = none, fun _ => .inr, fun b => H b ≠ none ∧ (c.Zd b ∨ c.H0 b = none), fun _ h => h.1⟩
theorem Iv.sub (h : RelL c L H) : Iv (subCtx c L H) H := by
  obtain ⟨Hz, h1, h2⟩ := h.iv
  exact ⟨Hz, h1, fun b o k => ⟨(h2 b o k).1, (h2 b o k).2.1, .inl ⟨by rw [(h2 b o k).1]; simp, (h2 b o k).2.2⟩⟩⟩
theorem PcOk.ctx {A : Addr → Prop} {c' : Ctx} (h : PcOk c A H x) (k : ∀ q ∈ ownA x, c'.H0 q = none) : PcOk c' A H x := by
  obtain ⟨s, w⟩ := x
  cases s with
  | un => trivial
  | fz d => cases w with
    | none => exact h.elim
    | some w => exact h
  | ow d => cases w with
    | none => exact h.elim
    | some w =>
      cases w <;> try exact h.elim
      exact ⟨k _ (List.mem_singleton.mpr rfl), h.2⟩
  | cl C => cases w with
    | none => exact h.elim
    | some w => exact ⟨h.1, k, h.2.2⟩
/-- .. some pieces are lent -/
def lendCtx (c : Ctx) (N L : List Pc) (H : Hp) : Ctx := ⟨fun a => if a ∈ owns N then none else H a, fun a => Al c (N ++ L) a ∨ a ∈ owns N ∨ H a = none, fun a h => .inr (by
  by_cases e : a ∈ owns N
  · exact .inl e
  · exact .inr ((if_neg e).symm.trans h)), fun b => (H b ≠ none ∧ b ∉ owns N) ∧ (c.Zd b ∨ c.H0 b = none), fun b h => by
  show (if b ∈ owns N then none else H b) ≠ none
  rw [if_neg h.1.2]; exact h.1.1⟩
section
variable {M N : List Pc}
theorem lend_none {q : Addr} (h : (lendCtx c N L H).H0 q = none) : q ∈ owns N ∨ H q = none := by
  by_cases e : q ∈ owns N
  · exact .inl e
  · exact .inr ((if_neg e).symm.trans h)
theorem lend_at {q : Addr} (h : q ∉ owns N) : (lendCtx c N L H).H0 q = H q := if_neg h
theorem owns_disj (h : RelL c (N ++ L) H) {q : Addr} (h1 : q ∈ owns N) (h2 : q ∈ owns L) : False := by
  have := h.nd
  rw [owns_app] at this
  exact (List.nodup_append.mp this).2.2 q h1 q h2 rfl
theorem owns_in1 (h : RelL c (N ++ L) H) {q : Addr} (h1 : q ∈ owns N) : c.H0 q = none ∧ H q ≠ none := owns_in h (by rw [owns_app]; exact List.mem_append_left _ h1)
theorem owns_in2 (h : RelL c (N ++ L) H) {q : Addr} (h1 : q ∈ owns L) : c.H0 q = none ∧ H q ≠ none := owns_in h (by rw [owns_app]; exact List.mem_append_right _ h1)
theorem RelL.callG (h : RelL c (N ++ L) H) (k : RelL (lendCtx c N L H) M H') : RelL c (M ++ L) H' := by
  have hm : ∀ q ∈ owns M, q ∈ owns N ∨ H q = none := fun q hq => lend_none (owns_in k hq).1
  have hm0 : ∀ q ∈ owns M, c.H0 q = none := fun q hq => (hm q hq).elim (fun z => (owns_in1 h z).1) fun z => h.h0 z
  have e1 : ∀ b o, H b = some o → b ∉ owns N → ∃ o', H' b = some o' ∧ sp (lendCtx c N L H).B H' b o o' := fun b o hb hn => k.old b o ((lend_at hn).trans hb)
  have dj : ∀ q ∈ owns M, q ∉ owns L := fun q hq hl => (hm q hq).elim (fun z => owns_disj h z hl) fun z => (owns_in2 h hl).2 z
  have nM : ∀ a o, Al c (N ++ L) a → H a = some o → a ∉ owns N ∧ Al c (M ++ L) a := fun a o ha ho => by
    have n1 : a ∉ owns N := fun z => ha.2 (by rw [owns_app]; exact List.mem_append_left _ z)
    have n2 : a ∉ owns L := fun z => ha.2 (by rw [owns_app]; exact List.mem_append_right _ z)
    refine ⟨n1, ha.1, ?_⟩
    rw [owns_app]
    intro z
    rcases List.mem_append.mp z with z | z
    · rcases hm a z with z | z
      · exact n1 z
      · rw [ho] at z; cases z
    · exact n2 z
  have lB : ∀ a, (lendCtx c N L H).B a → c.B a ∧ a ∉ owns L := fun a ha => by
    rcases ha with ha | ha | ha
    · exact ⟨ha.1, fun z => ha.2 (by rw [owns_app]; exact List.mem_append_right _ z)⟩
    · exact ⟨c.nb _ (owns_in1 h ha).1, fun z => owns_disj h ha z⟩
    · exact ⟨c.nb _ (h.h0 ha), fun z => (owns_in2 h z).2 ha⟩
  have key : TupK (lendCtx c N L H).B H' (Al c (M ++ L)) H' := fun a u ha hu ht => by
    refine ⟨⟨(lB a ha).1, ?_⟩, hu⟩
    rw [owns_app]
    intro z
    rcases List.mem_append.mp z with z | z
    · have := owns_no k z hu
      rw [this] at ht; cases ht
    · exact (lB a ha).2 z
  refine ⟨?_, fun x hx => ?_, fun b o hb => ?_, ?_⟩
  · have hn := h.nd
    rw [owns_app] at hn ⊢
    exact List.nodup_append.mpr ⟨k.nd, (List.nodup_append.mp hn).2.1, fun a ha b hb e => dj a ha (e ▸ hb)⟩
  · rcases List.mem_append.mp hx with hx | hx
    · refine ((k.ok x hx).mono (fun a o ha ho => ⟨?_, ho⟩) fun _ _ _ q => q).ctx fun q hq => hm0 q (mem_owns hx hq)
      refine ⟨(lB a ha.1).1, ?_⟩
      rw [owns_app]
      exact fun z => (List.mem_append.mp z).elim ha.2 (lB a ha.1).2
    · refine (h.ok x (List.mem_append_right _ hx)).monoN (fun a o ha ho => ?_) fun p hp o ho => ?_
      · obtain ⟨n1, n2⟩ := nM a o ha ho
        obtain ⟨o', g1, g2⟩ := e1 a o ho n1
        exact ⟨n2, o', g1, ZI.sp_mono g2 key⟩
      · obtain ⟨o', g1, g2⟩ := e1 p o ho fun z => owns_disj h z (mem_owns hx hp)
        exact ⟨o', g1, ZI.sp_mono g2 key⟩
  · obtain ⟨o1, g1, s1⟩ := h.old b o hb
    obtain ⟨o2, g2, s2⟩ := e1 b o1 g1 fun z => by
      have := (owns_in1 h z).1
      rw [hb] at this; cases this
    refine ⟨o2, g2, ZI.sp_trans s1 (fun x u hx hu ht => ⟨hx, ?_⟩) (ZI.sp_mono s2 fun x u hx hu ht => ⟨(lB x hx).1, hu⟩)⟩
    obtain ⟨u', w1, w2⟩ := e1 x u hu fun z => by
      have := owns_no h (q := x) (by rw [owns_app]; exact List.mem_append_left _ z) hu
      rw [this] at ht; cases ht
    have : u' = u := ZI.sp_fix (by cases u <;> first | rfl | cases ht) w2
    rw [← this]; exact this ▸ w1
  · obtain ⟨Hz, h1, h2⟩ := k.iv
    refine ⟨Hz, h1, fun b o q => ⟨(h2 b o q).1, (h2 b o q).2.1, ?_⟩⟩
    rcases (h2 b o q).2.2 with z | z
    · exact z.2
    · exact .inr ((lend_none z).elim (fun z => (owns_in1 h z).1) fun z => h.h0 z)
end
theorem sub_lend : subCtx c L H = lendCtx c [] L H := by
  have e1 : owns [] = [] := rfl
  unfold subCtx lendCtx
  congr 1
  · funext a
    rw [e1]
    simp
  · funext b
    rw [e1]
    simp
theorem RelL.callL {M : List Pc} (h : RelL c L H) (k : RelL (subCtx c L H) M H') : RelL c (M ++ L) H' := RelL.callG (N := []) h (sub_lend ▸ k)
theorem RelL.call (h : RelL c L H) (k : RelL (subCtx c L H) [x] H') : RelL c (x :: L) H' := h.callL k
/-- pieces, and new objects, become a cluster -/
theorem RelL.join {N : List Pc} {C' : Cl} (h : RelL c (N ++ L) H) (hk : ∀ b o, b ∉ owns N → H b = some o → H' b = some o) (hn : C'.as.Nodup) (ha : ∀ q ∈ C'.as, q ∈ owns N ∨ H q = none)
    (hφ : C'.φ (fun a => (c.B a ∧ a ∉ owns L) ∧ a ∉ C'.as) H') : RelL c ((.cl C', some C'.v) :: L) H' := by
  have eo' : owns ((.cl C', some C'.v) :: L) = C'.as ++ owns L := rfl
  have hnd := h.nd
  rw [owns_app] at hnd
  obtain ⟨n1, n2, n3⟩ := List.nodup_append.mp hnd
  have hi : ∀ q ∈ owns N, c.H0 q = none ∧ ∃ o, H q = some o ∧ ownO o = true := fun q hq => owns_ob h (by rw [owns_app]; exact List.mem_append_left _ hq)
  have hl : ∀ q ∈ owns L, c.H0 q = none ∧ ∃ o, H q = some o ∧ ownO o = true := fun q hq => owns_ob h (by rw [owns_app]; exact List.mem_append_right _ hq)
  have h0 : ∀ q ∈ C'.as, c.H0 q = none := fun q hq => (ha q hq).elim (fun z => (hi q z).1) fun z => h.h0 z
  refine ⟨?_, fun x hx => ?_, fun b o hb => ?_, ?_⟩
  · rw [eo']
    refine List.nodup_append.mpr ⟨hn, n2, fun a h1 b h2 e => ?_⟩
    subst e
    rcases ha a h1 with z | z
    · exact n3 a z a h2 rfl
    · obtain ⟨_, o, g, _⟩ := hl a h2
      rw [z] at g; cases g
  · rcases List.mem_cons.mp hx with rfl | hx
    · refine ⟨rfl, h0, C'.mono (fun a o h1 h2 _ => ⟨⟨h1.1.1, ?_⟩, h2⟩) (fun _ _ _ q => q) hφ⟩
      rw [eo']
      exact fun z => (List.mem_append.mp z).elim h1.2 h1.1.2
    · refine (h.ok x (List.mem_append_right _ hx)).mono (fun a o h1 h2 => ?_) fun p hp o ho => hk p o (fun z => n3 p z p (mem_owns hx hp) rfl) ho
      have m1 : a ∉ owns N := fun z => h1.2 (by rw [owns_app]; exact List.mem_append_left _ z)
      refine ⟨⟨h1.1, ?_⟩, hk a o m1 h2⟩
      rw [eo']
      intro z
      rcases List.mem_append.mp z with z | z
      · rcases ha a z with z | z
        · exact m1 z
        · rw [h2] at z; cases z
      · exact h1.2 (by rw [owns_app]; exact List.mem_append_right _ z)
  · obtain ⟨o', g1, g2⟩ := h.old b o hb
    refine ⟨o', hk b o' (fun z => ?_) g1, ZI.sp_mono g2 fun x u hx hu ht => ⟨hx, hk x u (fun z => ?_) hu⟩⟩
    · have := (hi b z).1
      rw [hb] at this; cases this
    · have := owns_no h (q := x) (by rw [owns_app]; exact List.mem_append_left _ z) hu
      rw [this] at ht; cases ht
  · obtain ⟨Hz, h1, h2⟩ := h.iv
    refine ⟨Hz, h1, fun b o k => ⟨hk b o (fun z => ?_) (h2 b o k).1, (h2 b o k).2⟩⟩
    obtain ⟨_, o1, g1, g2⟩ := hi b z
    rw [(h2 b o k).1] at g1
    cases g1
    have := (h2 b o k).2.1
    cases o <;> first | (cases g2; done) | cases this
theorem RelL.start (c : Ctx) (i : Iv c c.H0) : RelL c [] c.H0 := ⟨List.nodup_nil, fun x hx => absurd hx (by simp), .of fun _ _ q => q, i⟩
/-- a piece by itself -/
theorem RelL.frz (h : RelL c L H) (hx : (.fz d, some v) ∈ L) : Fr (Al c L) H d v := h.ok _ hx
end
def mkS : Bool → Dt → Sl
  | true, d => .ow d
  | false, d => .fz d
theorem RelL.mkfz {c : Ctx} {b : Bool} {d : Dt} {v : V} {L : List Pc} {H : Hp} (h : RelL c ((mkS b d, some v) :: L) H) : RelL c ((.fz d, some v) :: L) H := by
  cases b with
  | true => exact h.fz
  | false => exact h
def Rel (c : Ctx) (s : PSt) (σ : L2.St) (F : List Pc) (H : Hp) : Prop := s.length = σ.length ∧ RelL c (s.zip σ ++ F) H
section
variable {c : Ctx} {s s' : PSt} {σ σ' : L2.St} {F F' : List Pc} {H H' : Hp} {x : Pc} {d : Dt} {v : V} {k : Nat}
theorem Rel.sub (h : Rel c s σ F H) (e : F'.Sublist F) : Rel c s σ F' H := ⟨h.1, h.2.sub ((List.Sublist.refl _).append e)⟩
theorem Rel.perm (h : Rel c s σ F H) (e : F.Perm F') : Rel c s σ F' H := ⟨h.1, h.2.perm ((List.Perm.refl _).append e)⟩
theorem Rel.drop (h : Rel c s σ (x :: F) H) : Rel c s σ F H := h.sub (List.sublist_cons_self _ _)
theorem Rel.top (h : Rel c s σ (x :: F) H) : RelL c (x :: (s.zip σ ++ F)) H := h.2.perm List.perm_middle
theorem Rel.of_top (e : s.length = σ.length) (h : RelL c (x :: (s.zip σ ++ F)) H) : Rel c s σ (x :: F) H := ⟨e, h.perm List.perm_middle.symm⟩
theorem Rel.mkfz {b : Bool} (h : Rel c s σ ((mkS b d, some v) :: F) H) : Rel c s σ ((.fz d, some v) :: F) H := .of_top h.1 h.top.mkfz
theorem Rel.ex (h : Rel c s σ F H) (e : Ex H H') : Rel c s σ F H' := ⟨h.1, h.2.ex e⟩
theorem zip_get {k : Nat} {a : Sl} (e : s.length = σ.length) (h : s[k]? = some a) : ∃ b, σ[k]? = some b ∧ (s.zip σ)[k]? = some (a, b) := by
  have hk := (List.getElem?_eq_some_iff.mp h).1
  refine ⟨σ[k], by simp, ?_⟩
  rw [List.getElem?_zip_eq_some]
  exact ⟨h, by simp⟩
theorem zip_set (s : PSt) (σ : L2.St) (k : Nat) (a : Sl) (b : Option V) : (s.set k a).zip (σ.set k b) = (s.zip σ).set k (a, b) := by
  refine List.ext_getElem? fun i => ?_
  by_cases c : k = i
  · subst c
    rw [List.getElem?_set_self']
    by_cases h1 : k < s.length
    · by_cases h2 : k < σ.length
      · have e1 : (s.zip σ)[k]? = some (s[k], σ[k]) := List.getElem?_zip_eq_some.mpr ⟨by simp, by simp⟩
        rw [e1]
        exact List.getElem?_zip_eq_some.mpr ⟨by simp [h1], by simp [h2]⟩
      · rw [List.getElem?_eq_none (by simp; omega), List.getElem?_eq_none (by simp; omega)]; rfl
    · rw [List.getElem?_eq_none (by simp; omega), List.getElem?_eq_none (by simp; omega)]; rfl
  · rw [List.getElem?_set_ne c]
    cases h : (s.zip σ)[i]? with
    | none =>
      rw [List.getElem?_eq_none_iff] at h ⊢
      simp at h ⊢
      exact h
    | some z =>
      obtain ⟨z1, z2⟩ := z
      rw [List.getElem?_zip_eq_some] at h ⊢
      rw [List.getElem?_set_ne c, List.getElem?_set_ne c]
      exact h
/-- the slot k is read -/
theorem Rel.get (h : Rel c s σ F H) (hk : s[k]? = some (.fz d)) : ∃ v, σ[k]? = some (some v) ∧ Rel c s σ ((.fz d, some v) :: F) H := by
  obtain ⟨b, hb, hz⟩ := zip_get h.1 hk
  have hm : (Sl.fz d, b) ∈ s.zip σ ++ F := List.mem_append_left _ (List.mem_of_getElem? hz)
  have ho := h.2.ok _ hm
  cases b with
  | none => exact ho.elim
  | some v => exact ⟨v, hb, .of_top h.1 (h.2.fr ho)⟩
theorem split_at {α : Type} {l : List α} {k : Nat} {a : α} (h : l[k]? = some a) : l = l.take k ++ a :: l.drop (k + 1) := by
  have hk := (List.getElem?_eq_some_iff.mp h).1
  have := List.getElem_cons_drop hk
  have e : l[k] = a := (List.getElem?_eq_some_iff.mp h).2
  rw [e] at this
  rw [this, List.take_append_drop]
theorem set_split {α : Type} {l : List α} {k : Nat} {a : α} (h : k < l.length) : l.set k a = l.take k ++ a :: l.drop (k + 1) := by
  rw [List.set_eq_take_append_cons_drop, if_pos h]
/-- the k-th piece taken out -/
theorem Rel.out (h : Rel c s σ F H) {a : Sl} {b : Option V} (hz : (s.zip σ)[k]? = some (a, b)) : RelL c ((a, b) :: ((s.zip σ).take k ++ (s.zip σ).drop (k + 1) ++ F)) H := by
  have := h.2
  rw [split_at hz] at this
  refine this.perm ?_
  rw [List.append_assoc]
  refine List.perm_middle.trans (.cons _ ?_)
  simp
/-- .. and put back, changed -/
theorem Rel.back (e : s.length = σ.length) {b : Option V} (hb : σ[k]? = some b) {a' : Sl} (h : RelL c ((a', b) :: ((s.zip σ).take k ++ (s.zip σ).drop (k + 1) ++ F)) H) : Rel c (s.set k a') σ F H := by
  refine ⟨by simp [e], ?_⟩
  have hk : k < σ.length := (List.getElem?_eq_some_iff.mp hb).1
  have e1 : σ.set k b = σ := by
    refine List.ext_getElem? fun i => ?_
    by_cases c : k = i
    · subst c; rw [List.getElem?_set_self hk, hb]
    · rw [List.getElem?_set_ne c]
  have : (s.set k a').zip σ = (s.zip σ).set k (a', b) := by
    rw [← zip_set, e1]
  rw [this, set_split (by simp; omega)]
  refine h.perm ?_
  rw [List.append_assoc, List.append_assoc]
  exact List.perm_middle.symm
theorem Rel.frz (h : Rel c s σ F H) (hk : s[k]? = some (.ow d)) : Rel c (s.set k (.fz d)) σ F H := by
  obtain ⟨b, hb, hz⟩ := zip_get h.1 hk
  have ho := h.out hz
  cases b with
  | none => exact (ho.ok _ (List.mem_cons_self ..)).elim
  | some v => exact .back h.1 hb ho.fz
/-- a slot is stored to -/
theorem Rel.set {a : Sl} {b : Option V} (h : Rel c s σ ((a, b) :: F) H) (k : Nat) : Rel c (s.set k a) (σ.set k b) F H := by
  by_cases hk : k < s.length
  · refine ⟨by simp [h.1], ?_⟩
    rw [zip_set, set_split (by simp [← h.1]; exact hk)]
    refine (h.top.sub (L' := (a, b) :: ((s.zip σ).take k ++ (s.zip σ).drop (k + 1) ++ F)) ?_).perm ?_
    · refine List.Sublist.cons_cons _ (List.Sublist.append ?_ (List.Sublist.refl _))
      have e := (List.take_append_drop k (s.zip σ)).symm
      conv => rhs; rw [e]
      refine List.Sublist.append (List.Sublist.refl _) ?_
      exact List.drop_sublist_drop_left _ (by omega)
    · rw [List.append_assoc, List.append_assoc]
      exact List.perm_middle.symm
  · rw [List.set_eq_of_length_le (by omega), List.set_eq_of_length_le (by have := h.1; omega)]
    exact h.drop
def wipeS (s : PSt) : List Nat → PSt
  | [] => s
  | v :: vs => (wipeS s vs).set v .un
theorem Rel.forget (h : Rel c s σ F H) (k : Nat) (b : Option V) : Rel c (s.set k .un) (σ.set k b) F H := by
  refine Rel.set (a := .un) (b := b) ?_ k
  refine .of_top h.1 ⟨h.2.nd, fun x hx => ?_, h.2.old, h.2.iv⟩
  rcases List.mem_cons.mp hx with rfl | hx
  · trivial
  · exact h.2.ok x hx
theorem Rel.wipe (h : Rel c s σ F H) : ∀ vs : List Nat, Rel c (wipeS s vs) (wipe σ vs) F H
  | [] => h
  | v :: vs => (Rel.wipe h vs).forget v none
theorem wipeS_length (s : PSt) : ∀ vs : List Nat, (wipeS s vs).length = s.length
  | [] => rfl
  | v :: vs => by unfold wipeS; rw [List.length_set, wipeS_length s vs]
theorem wipe_un (s : PSt) : ∀ (vs : List Nat), ∀ k ∈ vs, k < s.length → (wipeS s vs)[k]? = some .un
  | [], k, h, _ => absurd h (by simp)
  | v :: vs, k, h, hk => by
    unfold wipeS
    by_cases c : v = k
    · subst c
      rw [List.getElem?_set_self (by rw [wipeS_length]; exact hk)]
    · rw [List.getElem?_set_ne c]
      rcases List.mem_cons.mp h with e | h
      · exact absurd e.symm c
      · exact wipe_un s vs k h hk
theorem wipe_out (σ : L2.St) {k : Nat} : ∀ {vs : List Nat}, k ∉ vs → (wipe σ vs)[k]? = σ[k]?
  | [], _ => rfl
  | v :: vs, h => by
    unfold wipe
    rw [List.getElem?_set_ne (fun e => h (by rw [e]; exact List.mem_cons_self ..))]
    exact wipe_out σ fun z => h (List.mem_cons_of_mem _ z)
/-- slots that are unknown may hold anything -/
theorem Rel.anyU (h : Rel c s σ F H) (hl : σ'.length = σ.length) (hk : ∀ k : Nat, s[k]? ≠ some Sl.un → σ'[k]? = σ[k]?) : Rel c s σ' F H := by
  refine ⟨by rw [h.1, hl], ?_⟩
  have hr := h.2
  have key : ∀ (s : PSt) (σ σ' : L2.St), s.length = σ.length → σ'.length = σ.length → (∀ k : Nat, s[k]? ≠ some Sl.un → σ'[k]? = σ[k]?) → owns (s.zip σ) = owns (s.zip σ') ∧ ∀ x ∈ s.zip σ', x.1 = Sl.un ∨ x ∈ s.zip σ := by
    intro s
    induction s with
    | nil => intro σ σ' h1 h2 h3; simp
    | cons a s ih =>
      intro σ σ' h1 h2 h3
      cases σ with
      | nil => cases h1
      | cons b σ =>
        cases σ' with
        | nil => cases h2
        | cons b' σ' =>
          obtain ⟨i1, i2⟩ := ih σ σ' (by simpa using h1) (by simpa using h2) fun k hk => by
            have := h3 (k + 1) (by simpa using hk)
            simpa using this
          have h0 := h3 0
          simp at h0
          refine ⟨?_, ?_⟩
          · show owns ((a, b) :: s.zip σ) = owns ((a, b') :: s.zip σ')
            unfold owns at i1 ⊢
            rw [List.flatMap_cons, List.flatMap_cons, i1]
            cases a with
            | un => rfl
            | fz d => rfl
            | ow d => rw [h0 (by simp)]
            | cl C => rfl
          · intro x hx
            rcases List.mem_cons.mp hx with e | hx
            · subst e
              cases a with
              | un => exact .inl rfl
              | fz d => right; rw [h0 (by simp)]; exact List.mem_cons_self ..
              | ow d => right; rw [h0 (by simp)]; exact List.mem_cons_self ..
              | cl d => right; rw [h0 (by simp)]; exact List.mem_cons_self ..
            · rcases i2 x hx with e | e
              · exact .inl e
              · exact .inr (List.mem_cons_of_mem _ e)
  obtain ⟨k1, k2⟩ := key s σ σ' h.1 hl hk
  have eo : owns (s.zip σ ++ F) = owns (s.zip σ' ++ F) := by
    unfold owns at k1 ⊢
    rw [List.flatMap_append, List.flatMap_append, k1]
  have ea : Al c (s.zip σ ++ F) = Al c (s.zip σ' ++ F) := by
    funext a; unfold Al; rw [eo]
  refine ⟨eo ▸ hr.nd, fun x hx => ?_, hr.old, hr.iv⟩
  rw [← ea]
  rcases List.mem_append.mp hx with hx | hx
  · rcases k2 x hx with e | e
    · obtain ⟨a, b⟩ := x
      cases e; trivial
    · exact hr.ok x (List.mem_append_left _ e)
  · exact hr.ok x (List.mem_append_right _ hx)
/-- behind a block: its names are forgotten, whatever they held ahead of it -/
theorem Rel.unwipe {σ2 : L2.St} {s2 : PSt} {vs : List Nat} (h : Rel c s2 σ2 F H) (e : L2.wipe σ2 vs = L2.wipe σ vs) (es : wipeS s2 vs = wipeS s vs) : Rel c (wipeS s vs) σ F H := by
  have h1 := Rel.wipe h vs
  rw [e, es] at h1
  refine Rel.anyU h1 (by rw [wipe_length]) fun k hk => ?_
  have l1 := h1.1
  rw [wipeS_length, wipe_length] at l1
  by_cases c : k < s.length
  · exact (wipe_out σ fun hm => hk (wipe_un s vs k hm c)).symm
  · rw [List.getElem?_eq_none (by omega), List.getElem?_eq_none (by rw [wipe_length]; omega)]
end
end Lt
namespace Lt
open PySem PySem.Spec PyProof.Rows L2 Evl
open SX (S)
variable [ZI]
abbrev PQ := Bool → Dt → PSt → Prop
abbrev PTE := PSt → PQ → Prop
abbrev PTT := PSt → (Bool → PSt → Prop) → Prop
abbrev PTA := PSt → (List Dt → PSt → Prop) → Prop
abbrev PTO := PSt → (Option Int → PSt → Prop) → Prop
structure PEnds where
  nx : PSt → Prop
  rt : Bool → Dt → Prop
  bk : PSt → Prop := fun _ => False
  ct : PSt → Prop := fun _ => False
  rs : PSt → Sl → Prop := fun _ _ => False
abbrev PTS := PEnds → PSt → Prop
abbrev PTI := PSt → (List Dt → PSt → Prop) → Prop
abbrev PTG := Dt → PSt → (PSt → Prop) → Prop
abbrev DQ := Bool → Dt → Prop
def fzs (ds : List Dt) (vs : List V) : List Pc := List.zipWith (fun d v => (.fz d, some v)) ds vs
def CE (c : Ctx) (t : TE) (tp : PTE) : Prop := ∀ (F : List Pc) (s : PSt) (σ : L2.St) (H : Hp) (Q : VK) (R : PQ), Rel c s σ F H → tp s R → (∀ b d s' v H', R b d s' → Rel c s' σ ((mkS b d, some v) :: F) H' → Q v H') → t σ H Q
def CT (c : Ctx) (t : TT) (tp : PTT) : Prop := ∀ (F : List Pc) (s : PSt) (σ : L2.St) (H : Hp) (Q : Bool → Hp → Prop) (R : Bool → PSt → Prop), Rel c s σ F H → tp s R → (∀ b s' H', R b s' → Rel c s' σ F H' → Q b H') → t σ H Q
def CA (c : Ctx) (t : TA) (tp : PTA) : Prop := ∀ (F : List Pc) (s : PSt) (σ : L2.St) (H : Hp) (Q : List V → Hp → Prop) (R : List Dt → PSt → Prop), Rel c s σ F H → tp s R → (∀ ds s' vs H', R ds s' → ds.length = vs.length → Rel c s' σ (fzs ds vs ++ F) H' → Q vs H') → t σ H Q
def CP (c : Ctx) (t : TO) (tp : PTO) : Prop := ∀ (F : List Pc) (s : PSt) (σ : L2.St) (H : Hp) (Q : Option Int → Hp → Prop) (R : Option Int → PSt → Prop), Rel c s σ F H → tp s R → (∀ b s' H', R b s' → Rel c s' σ F H' → Q b H') → t σ H Q
structure Lk (c : Ctx) (F : List Pc) (D : Ends) (P : PEnds) : Prop where
  nx : ∀ s σ H, P.nx s → Rel c s σ F H → D.nx σ H
  rt : ∀ b d v H, P.rt b d → RelL c [(mkS b d, some v)] H → D.rt v H
  bk : ∀ s σ H, P.bk s → Rel c s σ F H → D.bk σ H
  ct : ∀ s σ H, P.ct s → Rel c s σ F H → D.ct σ H
  rs : ∀ s σ sl v H, P.rs s sl → Rel c s σ ((sl, some v) :: F) H → D.rt v H
def CS (c : Ctx) (t : TS) (tp : PTS) : Prop := ∀ (F : List Pc) (s : PSt) (σ : L2.St) (H : Hp) (D : Ends) (P : PEnds), Rel c s σ F H → tp P s → Lk c F D P → t D σ H
/-- what is assigned: the piece on top goes to its place -/
def CG (c : Ctx) (vs : List Nat) (g : TG) (gp : PTG) : Prop := ∀ (F : List Pc) (s : PSt) (σ : L2.St) (H : Hp) (d : Dt) (v : V) (Q : L2.St → Hp → Prop) (R : PSt → Prop), Rel c s σ ((.fz d, some v) :: F) H → gp d s R → (∀ s' σ', R s' → Rel c s' σ' F H → wipe σ' vs = wipe σ vs → Q σ' H) → g v σ H Q
/-- a piece that may be looked at: frozen or owned -/
def Wk (L : List Pc) (d : Dt) (v : V) : Prop := (.fz d, some v) ∈ L ∨ (.ow d, some v) ∈ L ∨ ∃ C w, (.cl C, w) ∈ L ∧ C.lk d v
theorem look_at {c : Ctx} {L : List Pc} {H : Hp} {d : Dt} {v : V} (h : RelL c L H) (w : ∃ C w, (Sl.cl C, w) ∈ L ∧ C.lk d v) : ∃ p, v = .ref p ∧ p ∈ owns L ∧ AtS (Al c L) H d p := by
  obtain ⟨C, w, hm, hl⟩ := w
  have := h.ok _ hm
  cases w with
  | none => exact this.elim
  | some w =>
    obtain ⟨p, e, hp, k⟩ := C.look this.2.2 hl
    exact ⟨p, e, mem_owns hm hp, k⟩
def OpZ (r : R2) (rp : Dt → Dt → DQ → Prop) : Prop := ∀ (c : Ctx) (L : List Pc) (H : Hp) (x y : V) (dx dy : Dt) (Q : VK) (R : DQ), RelL c L H → Wk L dx x → Wk L dy y → rp dx dy R → (∀ b d v H', R b d → RelL c ((mkS b d, some v) :: L) H' → Q v H') → r x y H Q
def UnZ (r : V → Hp → VK → Prop) (rp : Dt → DQ → Prop) : Prop := ∀ (c : Ctx) (L : List Pc) (H : Hp) (x : V) (dx : Dt) (Q : VK) (R : DQ), RelL c L H → Wk L dx x → rp dx R → (∀ b d v H', R b d → RelL c ((mkS b d, some v) :: L) H' → Q v H') → r x H Q
section
variable {c : Ctx} {L : List Pc} {H : Hp} {d : Dt} {v : V}
theorem mem_zip {s : PSt} {σ : L2.St} {k : Nat} {a : Sl} (e : s.length = σ.length) (h : s[k]? = some a) : ∃ b, σ[k]? = some b ∧ (a, b) ∈ s.zip σ := by
  obtain ⟨b, h1, h2⟩ := zip_get e h
  exact ⟨b, h1, List.mem_of_getElem? h2⟩
theorem Wk.scal_int {i : Int} (h : RelL c L H) (w : Wk L (.int i) v) : v = .int i := by
  rcases w with w | w | w
  · exact h.ok _ w
  · have := h.ok _ w
    cases v <;> first | exact this.elim | exact this.2.elim
  · obtain ⟨_, _, _, k⟩ := look_at h w
    exact k.elim
theorem Wk.scal_str {l : List Nat} (h : RelL c L H) (w : Wk L (.str l) v) : v = Tx l := by
  rcases w with w | w | w
  · exact h.ok _ w
  · have := h.ok _ w
    cases v <;> first | exact this.elim | exact this.2.elim
  · obtain ⟨_, _, _, k⟩ := look_at h w
    exact k.elim
theorem Wk.scal_bl {l : Bool} (h : RelL c L H) (w : Wk L (.bl l) v) : v = .bl l := by
  rcases w with w | w | w
  · exact h.ok _ w
  · have := h.ok _ w
    cases v <;> first | exact this.elim | exact this.2.elim
  · obtain ⟨_, _, _, k⟩ := look_at h w
    exact k.elim
theorem Wk.scal_non (h : RelL c L H) (w : Wk L .non v) : v = .non := by
  rcases w with w | w | w
  · exact h.ok _ w
  · have := h.ok _ w
    cases v <;> first | exact this.elim | exact this.2.elim
  · obtain ⟨_, _, _, k⟩ := look_at h w
    exact k.elim
theorem Wk.lst {ds : List Dt} (h : RelL c L H) (w : Wk L (.lst ds) v) : ∃ p xs, v = .ref p ∧ H p = some (.lst xs) ∧ FrAll (Al c L) H ds xs := by
  rcases w with w | w | w
  · obtain ⟨a, xs, h1, h2, h3, h4⟩ := h.ok _ w
    exact ⟨a, xs, h1, h3, h4⟩
  · have := h.ok _ w
    cases v <;> try exact this.elim
    obtain ⟨_, xs, h1, h2⟩ := this
    exact ⟨_, xs, rfl, h1, h2⟩
  · obtain ⟨p, e, _, xs, h1, h2⟩ := look_at h w
    exact ⟨p, xs, e, h1, h2.fr⟩
theorem Wk.dic {ks : List Key} {ds : List Dt} (h : RelL c L H) (w : Wk L (.dic ks ds) v) : ∃ (p : Addr) (ws : List (Key × V)), v = .ref p ∧ Rd H p (.dK ws) ∧ ws.map (·.1) = ks ∧ FrAll (Al c L) H ds (ws.map (·.2)) := by
  rcases w with w | w | w
  · obtain ⟨a, xs, h1, h2, h3, h4, h5⟩ := h.ok _ w
    exact ⟨a, xs, h1, h3, h4, h5⟩
  · have := h.ok _ w
    cases v <;> try exact this.elim
    obtain ⟨_, xs, h1, h2, h3⟩ := this
    exact ⟨_, xs, rfl, .inl h1, h2, h3⟩
  · obtain ⟨p, e, _, xs, h1, h2, h3⟩ := look_at h w
    exact ⟨p, xs, e, .inl h1, h2, h3.fr⟩
theorem Wk.fr_tup {ds : List Dt} (h : RelL c L H) (w : Wk L (.tup ds) v) : Fr (Al c L) H (.tup ds) v := by
  rcases w with w | w | w
  · exact h.ok _ w
  · have := h.ok _ w
    cases v <;> try exact this.elim
    exact this.2.elim
  · obtain ⟨_, _, _, k⟩ := look_at h w
    exact k.elim
theorem Wk.tup {ds : List Dt} (h : RelL c L H) (w : Wk L (.tup ds) v) : ∃ p xs, v = .ref p ∧ Al c L p ∧ Rd H p (.tup xs) ∧ FrAll (Al c L) H ds xs := w.fr_tup h
theorem Wk.tpk {ds : List Dt} (h : RelL c L H) (w : Wk L (.tpk ds) v) : Fr (Al c L) H (.tpk ds) v := by
  rcases w with w | w | w
  · exact h.ok _ w
  · have := h.ok _ w
    cases v <;> try exact this.elim
    exact this.2.elim
  · obtain ⟨_, _, _, k⟩ := look_at h w
    exact k.elim
/-- a tuple, whatever is known of it -/
def fgt : Dt → Dt
  | .tpk ds => .tup ds
  | d => d
/-- scalars -/
theorem RelL.scal (h : RelL c L H) (hd : ∀ A H, Fr A H d v) : RelL c ((mkS false d, some v) :: L) H := h.fr (hd _ _)
theorem RelL.int (h : RelL c L H) (i : Int) : RelL c ((mkS false (.int i), some (.int i)) :: L) H := h.scal fun _ _ => rfl
theorem RelL.str (h : RelL c L H) (i : List Nat) : RelL c ((mkS false (.str i), some (Tx i)) :: L) H := h.scal fun _ _ => rfl
theorem RelL.bl (h : RelL c L H) (i : Bool) : RelL c ((mkS false (.bl i), some (.bl i)) :: L) H := h.scal fun _ _ => rfl
/-- a new list, a new tuple -/
theorem RelL.newL (h : RelL c L H) {ds : List Dt} {xs : List V} (r : FrAll (Al c L) H ds xs) {p : Addr} {H2 : Hp} (hp : H p = none) (e : Ex H H2) (h2 : H2 p = some (.lst xs)) : RelL c ((mkS true (.lst ds), some (.ref p)) :: L) H2 :=
  h.new e hp ⟨xs, h2, r.dom.mono fun a o ha ho => ⟨⟨ha.1, fun z => ha.2 (by rw [z]; exact hp)⟩, e _ _ ho⟩⟩
theorem RelL.newT (h : RelL c L H) {ds : List Dt} {xs : List V} (r : FrAll (Al c L) H ds xs) {p : Addr} {H2 : Hp} (hp : H p = none) (e : Ex H H2) (h2 : H2 p = some (.tup xs)) : RelL c ((mkS false (.tup ds), some (.ref p)) :: L) H2 :=
  (h.ex e).fr ⟨p, xs, rfl, ⟨c.nb _ (h.h0 hp), fun z => (owns_in h z).2 hp⟩, .inl h2, r.mono fun a o ha ho => ⟨ha, e _ _ ho⟩⟩
end
section
variable {c : Ctx} {L : List Pc} {H : Hp} {d : Dt} {v : V}
theorem Wk.more {x : Pc} (w : Wk L d v) : Wk (x :: L) d v := w.imp (List.mem_cons_of_mem _) fun w => w.imp (List.mem_cons_of_mem _) fun ⟨C, u, h1, h2⟩ => ⟨C, u, List.mem_cons_of_mem _ h1, h2⟩
theorem Wk.fgt (h : RelL c L H) (w : Wk L d v) : ∃ x : Pc, RelL c (x :: L) H ∧ Wk (x :: L) (fgt d) v := by
  by_cases e : ∃ ds, d = .tpk ds
  · obtain ⟨ds, rfl⟩ := e
    obtain ⟨p, xs, o, e1, ha, g1, _, g2⟩ := w.tpk h
    exact ⟨(.fz (.tup ds), some v), h.fr ⟨p, xs, e1, ha, .inr ⟨o, g1⟩, g2⟩, .inl (List.mem_cons_self ..)⟩
  · refine ⟨(mkS false .non, some .non), h.scal fun _ _ => rfl, ?_⟩
    have : Lt.fgt d = d := by
      cases d <;> first | rfl | exact absurd ⟨_, rfl⟩ e
    rw [this]
    exact w.more
theorem OpZ.fgt {r : R2} {rp : Dt → Dt → DQ → Prop} (z : OpZ r rp) : OpZ r fun x y R => rp (Lt.fgt x) (Lt.fgt y) R := by
  intro c L H x y dx dy Q R h wx wy hr k
  obtain ⟨p, h1, w1⟩ := wx.fgt h
  obtain ⟨q, h2, w2⟩ := (wy.more (x := p)).fgt h1
  refine z c _ H x y _ _ Q R h2 w1.more w2 hr fun b d v H' rd hl => k b d v H' rd (hl.sub (.cons_cons _ ?_))
  exact (List.sublist_cons_self p L).trans (List.sublist_cons_self q (p :: L))
theorem UnZ.fgt {r : V → Hp → VK → Prop} {rp : Dt → DQ → Prop} (z : UnZ r rp) : UnZ r fun x R => rp (Lt.fgt x) R := by
  intro c L H x dx Q R h wx hr k
  obtain ⟨p, h1, w1⟩ := wx.fgt h
  exact z c _ H x _ Q R h1 w1 hr fun b d v H' rd hl => k b d v H' rd (hl.sub (.cons_cons _ (List.sublist_cons_self p L)))
end
def zAdd0 (x y : Dt) (R : DQ) : Prop := match x, y with
  | .int i, .int j => R false (.int (i + j))
  | .str a, .str b => a.length + b.length ≤ 16777216 ∧ R false (.str (a ++ b))
  | .lst a, .lst b => a.length + b.length ≤ 16777216 ∧ R true (.lst (a ++ b))
  | .tup a, .tup b => a.length + b.length ≤ 16777216 ∧ R false (.tup (a ++ b))
  | _, _ => False
def rCatTZ : R2 := fun x y H Q => ∃ (a b : Addr) (xs ys : List V), x = .ref a ∧ y = .ref b ∧ Rd H a (.tup xs) ∧ Rd H b (.tup ys) ∧ xs.length + ys.length ≤ sizeLine ∧ (xs = [] → Q (.ref b) H) ∧ (ys = [] → Q (.ref a) H) ∧ ∀ p, H p = none → Q (.ref p) (upd H p (.tup (xs ++ ys)))
theorem op_catTZ {X : Cx} : OpR X (binaryOp .Add) rCatTZ := OpR.wk (r := rCatA X.K) op_catA fun x y H Q ⟨a, b, xs, ys, e1, e2, h1, h2, hl, q0, q1, q2⟩ =>
  ⟨a, b, xs, ys, e1, e2, .inl h1, .inl h2, hl, q0, fun _ h => q1 h, fun _ _ p hp => q2 p hp⟩
def rAddZ : R2 := fun x y H Q => rAddI x y H Q ∨ rAddT x y H Q ∨ rCatX x y H Q ∨ rCatTZ x y H Q
theorem op_addZ {X : Cx} : OpR X (binaryOp .Add) rAddZ := OpR.orr op_add (OpR.orr op_addT (OpR.orr op_catX op_catTZ))
theorem z_add0 : OpZ rAddZ zAdd0 := by
  intro c L H x y dx dy Q R h wx wy hr k
  unfold zAdd0 at hr
  split at hr
  · rw [wx.scal_int h, wy.scal_int h]
    exact .inl ⟨_, _, rfl, rfl, k _ _ _ _ hr (h.int _)⟩
  · rw [wx.scal_str h, wy.scal_str h]
    exact .inr (.inl ⟨_, _, rfl, rfl, by rw [sizeLine_eq]; exact hr.1, k _ _ _ _ hr.2 (h.str _)⟩)
  · obtain ⟨p, xs, rfl, h1, h2⟩ := wx.lst h
    obtain ⟨q, ys, rfl, h3, h4⟩ := wy.lst h
    exact .inr (.inr (.inl ⟨_, _, _, _, rfl, rfl, h1, h3, by rw [h2.length, h4.length, sizeLine_eq]; exact hr.1, fun r H2 hp e h5 => k _ _ _ _ hr.2 (h.newL (h2.append h4) hp e h5)⟩))
  · rename_i a b
    obtain ⟨p, xs, rfl, h0, h1, h2⟩ := wx.tup h
    obtain ⟨q, ys, rfl, g0, h3, h4⟩ := wy.tup h
    refine .inr (.inr (.inr ⟨_, _, _, _, rfl, rfl, h1, h3, by rw [h2.length, h4.length, sizeLine_eq]; exact hr.1, fun e => ?_, fun e => ?_, fun r hr' => ?_⟩))
    · refine k _ _ _ _ hr.2 (h.fr ?_)
      subst e
      obtain rfl : a = [] := List.eq_nil_of_length_eq_zero (by rw [← h2.length]; rfl)
      exact ⟨q, ys, rfl, g0, h3, h4⟩
    · refine k _ _ _ _ hr.2 (h.fr ?_)
      subst e
      obtain rfl : b = [] := List.eq_nil_of_length_eq_zero (by rw [← h4.length]; rfl)
      rw [List.append_nil]
      exact ⟨p, xs, rfl, h0, h1, h2⟩
    · exact k _ _ _ _ hr.2 (h.newT (h2.append h4) hr' (Ex.new hr') upd_same)
  · exact hr.elim
def zAdd (x y : Dt) (R : DQ) : Prop := zAdd0 (fgt x) (fgt y) R
theorem z_add : OpZ rAddZ zAdd := z_add0.fgt
def zI0 (f : Int → Int → Int) (x y : Dt) (R : DQ) : Prop := match x, y with
  | .int i, .int j => R false (.int (f i j))
  | _, _ => False
def zI (C : Int → Int → Prop) (f : Int → Int → Int) (x y : Dt) (R : DQ) : Prop := match x, y with
  | .int i, .int j => C i j ∧ R false (.int (f i j))
  | _, _ => False
theorem z_i0 {f : Int → Int → Int} : OpZ (rI0 fun i j => .int (f i j)) (zI0 f) := by
  intro c L H x y dx dy Q R h wx wy hr k
  unfold zI0 at hr
  split at hr
  · rw [wx.scal_int h, wy.scal_int h]
    exact ⟨_, _, rfl, rfl, k _ _ _ _ hr (h.int _)⟩
  · exact hr.elim
abbrev zSub := zI0 (· - ·)
abbrev zMul := zI CMul (· * ·)
abbrev zMod := zI (fun _ j => j ≠ 0) Int.fmod
abbrev zDiv := zI CDivN Int.fdiv
theorem z_sub : OpZ (rI0 fun i j => .int (i - j)) zSub := z_i0
def zPow (x y : Dt) (R : DQ) : Prop := zI CPow (fun i j => i ^ j.toNat) x y R
def zNeg (x : Dt) (R : DQ) : Prop := match x with
  | .int i => R false (.int (-i))
  | _ => False
theorem z_neg : UnZ (rU fun i => .int (-i)) zNeg := by
  intro c L H x dx Q R h wx hr k
  unfold zNeg at hr
  split at hr
  · rw [wx.scal_int h]
    exact ⟨_, rfl, k _ _ _ _ hr (h.int _)⟩
  · exact hr.elim
/-- comparisons -/
def zC (f : Int → Int → Bool) (g : List Nat → List Nat → Bool) (x y : Dt) (R : DQ) : Prop := match x, y with
  | .int i, .int j => R false (.bl (f i j))
  | .str i, .str j => R false (.bl (g i j))
  | _, _ => False
theorem z_c {r : R2} {f : Int → Int → Bool} {g : List Nat → List Nat → Bool} (h1 : ∀ i j H Q, Q (.bl (f i j)) H → r (.int i) (.int j) H Q) (h2 : ∀ a b H Q, Q (.bl (g a b)) H → r (Tx a) (Tx b) H Q) : OpZ r (zC f g) := by
  intro c L H x y dx dy Q R h wx wy hr k
  unfold zC at hr
  split at hr
  · rw [wx.scal_int h, wy.scal_int h]
    exact h1 _ _ _ _ (k _ _ _ _ hr (h.bl _))
  · rw [wx.scal_str h, wy.scal_str h]
    exact h2 _ _ _ _ (k _ _ _ _ hr (h.bl _))
  · exact hr.elim
abbrev zLt := zC (fun i j => decide (i < j)) (fun a b => decide (a < b))
abbrev zGt := zC (fun i j => decide (j < i)) (fun a b => decide (b < a))
abbrev zLe := zC (fun i j => decide (i ≤ j)) (fun a b => !decide (b < a))
abbrev zGe := zC (fun i j => decide (j ≤ i)) (fun a b => !decide (a < b))
theorem z_lt : OpZ rLtU zLt := z_c (fun _ _ _ _ q => w_ltI q) fun _ _ _ _ q => w_ltT q
theorem z_gt : OpZ rGtU zGt := z_c (fun _ _ _ _ q => w_gtI q) fun _ _ _ _ q => w_gtT q
theorem z_le : OpZ rLeU zLe := z_c (fun _ _ _ _ q => w_leI q) fun _ _ _ _ q => w_leT q
theorem z_ge : OpZ rGeU zGe := z_c (fun _ _ _ _ q => w_geI q) fun _ _ _ _ q => w_geT q
mutual
def toP : Dt → PyData
  | .non => .none
  | .bl b => .bool b
  | .int i => .int i
  | .str l => .str (S l)
  | .tup ds => .tuple (toPs ds)
  | .tpk ds => .tuple (toPs ds)
  | .lst ds => .list (toPs ds)
  | .dic _ _ => .none
  | .dice => .none
  | .val _ => .none
  | .ob _ _ => .none
def toPs : List Dt → List PyData
  | [] => []
  | d :: ds => toP d :: toPs ds
end
mutual
/-- data that may be compared, so deep -/
def cmpOk : Nat → Dt → Bool
  | 0, _ => false
  | _ + 1, .non => true
  | _ + 1, .bl _ => true
  | _ + 1, .int _ => true
  | _ + 1, .str l => l.all fun c => decide (c < 1114112)
  | n + 1, .tup ds => cmpOks n ds
  | n + 1, .tpk ds => cmpOks n ds
  | n + 1, .lst ds => cmpOks n ds
  | _ + 1, .dic _ _ => false
  | _ + 1, .dice => false
  | _ + 1, .val _ => false
  | _ + 1, .ob _ _ => false
def cmpOks : Nat → List Dt → Bool
  | _, [] => true
  | n, d :: ds => cmpOk n d && cmpOks n ds
end
mutual
theorem okD_toP : ∀ (n : Nat) (d : Dt), cmpOk n d = true → okD n (toP d)
  | 0, d, h => by unfold cmpOk at h; cases h
  | n + 1, .non, _ => okD_none.mono (by omega)
  | n + 1, .bl b, _ => (okD_bool b).mono (by omega)
  | n + 1, .int i, _ => (okD_int i).mono (by omega)
  | n + 1, .str l, h => (okD_tx (by
      unfold cmpOk at h
      intro c hc
      have := List.all_eq_true.mp h c hc
      simpa using this)).mono (by omega)
  | n + 1, .tup ds, h => okD_tup (okDs_toPs n ds (by unfold cmpOk at h; exact h))
  | n + 1, .tpk ds, h => okD_tup (okDs_toPs n ds (by unfold cmpOk at h; exact h))
  | n + 1, .lst ds, h => okD_list (okDs_toPs n ds (by unfold cmpOk at h; exact h))
  | n + 1, .dic _ _, h => by unfold cmpOk at h; cases h
  | n + 1, .dice, h => by unfold cmpOk at h; cases h
  | n + 1, .val _, h => by unfold cmpOk at h; cases h
  | n + 1, .ob _ _, h => by unfold cmpOk at h; cases h
theorem okDs_toPs : ∀ (n : Nat) (ds : List Dt), cmpOks n ds = true → ∀ d ∈ toPs ds, okD n d
  | n, [], _ => by unfold toPs; simp
  | n, d :: ds, h => by
    unfold cmpOks at h
    unfold toPs
    rw [Bool.and_eq_true] at h
    intro e he
    rcases List.mem_cons.mp he with rfl | he
    · exact okD_toP n d h.1
    · exact okDs_toPs n ds h.2 e he
end
mutual
theorem fr_rp {A : Addr → Prop} {H : Hp} : ∀ (n : Nat) (d : Dt) (v : V), cmpOk n d = true → Fr A H d v → Rp H v (toP d)
  | 0, d, v, h, _ => by unfold cmpOk at h; cases h
  | n + 1, .non, v, _, r => by cases r; exact .non
  | n + 1, .bl b, v, _, r => by cases r; exact .bl b
  | n + 1, .int i, v, _, r => by cases r; exact .int i
  | n + 1, .str l, v, _, r => by cases r; exact .str _
  | n + 1, .tup ds, v, h, r => by
    obtain ⟨a, xs, rfl, _, h1, h2⟩ := r
    exact .tup h1 (fr_rps n ds xs (by unfold cmpOk at h; exact h) h2)
  | n + 1, .tpk ds, v, h, r => by
    obtain ⟨a, xs, o, rfl, _, h1, _, h2⟩ := r
    exact .tup (.inr ⟨o, h1⟩) (fr_rps n ds xs (by unfold cmpOk at h; exact h) h2)
  | n + 1, .lst ds, v, h, r => by
    obtain ⟨a, xs, rfl, _, h1, h2⟩ := r
    exact .lst h1 (fr_rps n ds xs (by unfold cmpOk at h; exact h) h2)
  | n + 1, .dic _ _, v, h, _ => by unfold cmpOk at h; cases h
  | n + 1, .dice, v, h, _ => by unfold cmpOk at h; cases h
  | n + 1, .val _, v, h, _ => by unfold cmpOk at h; cases h
  | n + 1, .ob _ _, v, h, _ => by unfold cmpOk at h; cases h
theorem fr_rps {A : Addr → Prop} {H : Hp} : ∀ (n : Nat) (ds : List Dt) (vs : List V), cmpOks n ds = true → FrAll A H ds vs → RpAll H vs (toPs ds)
  | n, [], _, _, r => by cases r; exact .nil
  | n, d :: ds, vs, h, r => by
    obtain ⟨v, ws, rfl, h1, h2⟩ := r
    unfold cmpOks at h
    rw [Bool.and_eq_true] at h
    exact .cons (fr_rp n d v h.1 h1) (fr_rps n ds ws h.2 h2)
end
def eqD (x y : Dt) : Bool := PyData.eqv (toP x) (toP y)
theorem Wk.rp {c : Ctx} {L : List Pc} {H : Hp} {d : Dt} {v : V} {n : Nat} (h : RelL c L H) (w : Wk L d v) (ok : cmpOk n d = true) : Rp H v (toP d) := by
  rcases w with w | w | w
  · exact fr_rp n d v ok (h.ok _ w)
  · have := h.ok _ w
    cases v <;> try exact this.elim
    obtain ⟨_, q⟩ := this
    exact fr_rp (A := fun _ => True) n d _ ok ((q.mono (fun a o _ ho => ⟨trivial, ho⟩) fun _ q => q).to_fr trivial)
  · obtain ⟨p, e, _, q⟩ := look_at h w
    subst e
    exact fr_rp (A := fun _ => True) n d _ ok ((q.at.mono (fun a o _ ho => ⟨trivial, ho⟩) fun _ q => q).to_fr trivial)
def zEqG (neg : Bool) (x y : Dt) (R : DQ) : Prop := match x, y with
  | .int i, .int j => R false (.bl (neg ^^ decide (i = j)))
  | .str i, .str j => R false (.bl (neg ^^ decide (i = j)))
  | .bl i, .bl j => R false (.bl (neg ^^ decide (i = j)))
  | x, y => cmpOk 60 x = true ∧ cmpOk 60 y = true ∧ R false (.bl (neg ^^ eqD x y))
abbrev zEq := zEqG false
abbrev zNe := zEqG true
theorem z_eq {K : PySem.W.Frag} : OpZ (rEqU K) zEq := by
  intro c L H x y dx dy Q R h wx wy hr k
  unfold zEq zEqG at hr
  split at hr
  · rw [wx.scal_int h, wy.scal_int h]
    exact w_eqI (k _ _ _ _ (by simpa using hr) (h.bl _))
  · rw [wx.scal_str h, wy.scal_str h]
    exact w_eqT (k _ _ _ _ (by simpa using hr) (h.bl _))
  · rw [wx.scal_bl h, wy.scal_bl h]
    refine w_eqS rfl ?_
    rename_i i j
    have e : decide (V.bl i = V.bl j) = decide (i = j) := by by_cases h : i = j <;> simp [h]
    rw [e]
    exact (k _ _ _ _ (by simpa using hr) (h.bl _))
  · exact w_eqD (wx.rp h hr.1) (wy.rp h hr.2.1) (okD_toP _ _ hr.1).shaped (okD_toP _ _ hr.2.1).shaped (k _ _ _ _ (by simpa [eqD] using hr.2.2) (h.bl _))
theorem z_ne {K : PySem.W.Frag} : OpZ (rNeU K) zNe := by
  intro c L H x y dx dy Q R h wx wy hr k
  unfold zNe zEqG at hr
  split at hr
  · rw [wx.scal_int h, wy.scal_int h]
    exact w_neI (k _ _ _ _ (by simpa using hr) (h.bl _))
  · rw [wx.scal_str h, wy.scal_str h]
    exact w_neT (k _ _ _ _ (by simpa using hr) (h.bl _))
  · rw [wx.scal_bl h, wy.scal_bl h]
    refine w_neS rfl ?_
    rename_i i j
    have e : decide (V.bl i = V.bl j) = decide (i = j) := by by_cases h : i = j <;> simp [h]
    rw [e]
    exact (k _ _ _ _ (by simpa using hr) (h.bl _))
  · exact w_neD (wx.rp h hr.1) (wy.rp h hr.2.1) (okD_toP _ _ hr.1).shaped (okD_toP _ _ hr.2.1).shaped (k _ _ _ _ (by simpa [eqD] using hr.2.2) (h.bl _))
/-- is None -/
def zIsG (neg : Bool) (x y : Dt) (R : DQ) : Prop := match x, y with
  | .non, .non => R false (.bl (!neg))
  | .val _, .non => False
  | _, .non => R false (.bl neg)
  | _, _ => False
abbrev zIsN := zIsG false
abbrev zNotN := zIsG true
theorem Wk.notnon {c : Ctx} {L : List Pc} {H : Hp} {d : Dt} {v : V} (h : RelL c L H) (w : Wk L d v) (h1 : d ≠ .non) (h2 : ∀ v, d ≠ .val v) : v ≠ .non := by
  intro e
  subst e
  rcases w with w | w | w
  · have := h.ok _ w
    cases d <;> try (first | exact absurd rfl h1 | exact absurd rfl (h2 _))
    all_goals first
      | (cases (show V.non = _ from this); done)
      | (obtain ⟨_, e⟩ := ZI.ob_ref this; cases e; done)
      | (obtain ⟨_, _, e, _⟩ := this; cases e; done)
      | (obtain ⟨_, _, _, e, _⟩ := this; cases e; done)
      | (obtain ⟨_, e, _⟩ := this; cases e; done)
  · exact h.ok _ w
  · obtain ⟨p, e, _⟩ := look_at h w
    cases e
theorem z_isG {r : R2} {neg : Bool} (h1 : ∀ H Q, Q (.bl (!neg)) H → r .non .non H Q) (h2 : ∀ x H Q, x ≠ .non → Q (.bl neg) H → r x .non H Q) : OpZ r (zIsG neg) := by
  intro c L H x y dx dy Q R h wx wy hr k
  unfold zIsG at hr
  split at hr
  · rw [wx.scal_non h, wy.scal_non h]
    exact h1 _ _ (k _ _ _ _ hr (h.bl _))
  · exact hr.elim
  · rename_i hx hv
    rw [wy.scal_non h]
    exact h2 _ _ _ (wx.notnon h hx hv) (k _ _ _ _ hr (h.bl _))
  · exact hr.elim
theorem z_isN : OpZ rIsN zIsN := z_isG (fun _ _ q => w_isN q) fun _ _ _ h q => w_isNx h q
theorem z_notN : OpZ rNotN zNotN := z_isG (fun _ _ q => w_notN q) fun _ _ _ h q => w_notNx h q
/-- in -/
def fltD : Dt → Option V
  | .non => some .non
  | .bl b => some (.bl b)
  | .int i => some (.int i)
  | .str l => some (Tx l)
  | _ => none
theorem fltD_fr {A : Addr → Prop} {H : Hp} {d : Dt} {v w : V} (r : Fr A H d v) (e : fltD d = some w) : v = w ∧ flatV w = true := by
  cases d <;> cases e <;> exact ⟨r, rfl⟩
def zInG0 (neg : Bool) (x y : Dt) (R : DQ) : Prop := match x, y with
  | .str a, .str l => ∃ ch, a = [ch] ∧ R false (.bl (neg ^^ decide (ch ∈ l)))
  | x, .lst ds => ∃ v, fltD x = some v ∧ ∃ vs, ds.map fltD = vs.map some ∧ R false (.bl (neg ^^ inV v vs))
  | x, .tup ds => ∃ v, fltD x = some v ∧ ∃ vs, ds.map fltD = vs.map some ∧ R false (.bl (neg ^^ inV v vs))
  | _, _ => False
theorem flt_all {A : Addr → Prop} {H : Hp} : ∀ {ds : List Dt} {xs vs : List V}, FrAll A H ds xs → ds.map fltD = vs.map some → xs = vs ∧ vs.all flatV = true
  | [], _, vs, r, e => by
    cases vs with
    | nil => exact ⟨r, rfl⟩
    | cons v vs => cases e
  | d :: ds, _, vs, r, e => by
    obtain ⟨v, ws, rfl, h1, h2⟩ := r
    cases vs with
    | nil => cases e
    | cons w vs =>
      simp only [List.map_cons, List.cons.injEq] at e
      obtain ⟨e1, e2⟩ := fltD_fr h1 e.1
      obtain ⟨e3, e4⟩ := flt_all h2 e.2
      subst e1 e3
      exact ⟨rfl, by simp [e2]; simpa using e4⟩
theorem Wk.flt {c : Ctx} {L : List Pc} {H : Hp} {d : Dt} {v w : V} (h : RelL c L H) (wk : Wk L d v) (e : fltD d = some w) : v = w ∧ flatV w = true := by
  rcases wk with q | q | q
  · exact fltD_fr (h.ok _ q) e
  · have := h.ok _ q
    cases v <;> try exact this.elim
    cases d <;> first | (cases e; done) | exact this.2.elim
  · obtain ⟨p, _, _, k⟩ := look_at h q
    cases d <;> first | (cases e; done) | exact k.elim
theorem z_inG0 {r : R2} {K : PySem.W.Frag} {neg : Bool} (h1 : ∀ ch l H Q, Q (.bl (neg ^^ decide (ch ∈ l))) H → r (Tx [ch]) (Tx l) H Q) (h2 : ∀ x y H Q, rIn K neg x y H Q → r x y H Q) : OpZ r (zInG0 neg) := by
  intro c L H x y dx dy Q R h wx wy hr k
  unfold zInG0 at hr
  have e : ∀ (b : Bool), (if neg = true then !b else b) = (neg ^^ b) := fun b => by cases neg <;> simp
  split at hr
  · obtain ⟨ch, rfl, hr⟩ := hr
    rw [wx.scal_str h, wy.scal_str h]
    exact h1 _ _ _ _ (k _ _ _ _ hr (h.bl _))
  · obtain ⟨v, e1, vs, e2, hr⟩ := hr
    obtain ⟨rfl, f1⟩ := wx.flt h e1
    obtain ⟨p, xs, rfl, g1, g2⟩ := wy.lst h
    obtain ⟨rfl, f2⟩ := flt_all g2 e2
    exact h2 _ _ _ _ ⟨_, _, rfl, .inl (SqL.of g1), f1, f2, by rw [e]; exact k _ _ _ _ hr (h.bl _)⟩
  · obtain ⟨v, e1, vs, e2, hr⟩ := hr
    obtain ⟨rfl, f1⟩ := wx.flt h e1
    obtain ⟨p, xs, rfl, _, g1, g2⟩ := wy.tup h
    obtain ⟨rfl, f2⟩ := flt_all g2 e2
    exact h2 _ _ _ _ ⟨_, _, rfl, .inr (.inl g1), f1, f2, by rw [e]; exact k _ _ _ _ hr (h.bl _)⟩
  · exact hr.elim
def zInG (neg : Bool) (x y : Dt) (R : DQ) : Prop := zInG0 neg (fgt x) (fgt y) R
theorem z_inG {r : R2} {K : PySem.W.Frag} {neg : Bool} (h1 : ∀ ch l H Q, Q (.bl (neg ^^ decide (ch ∈ l))) H → r (Tx [ch]) (Tx l) H Q) (h2 : ∀ x y H Q, rIn K neg x y H Q → r x y H Q) : OpZ r (zInG neg) := (z_inG0 h1 h2).fgt
abbrev zIn := zInG false
abbrev zNotIn := zInG true
theorem z_in {K : PySem.W.Frag} : OpZ (rInU K) zIn := z_inG (K := K) (fun _ _ _ _ q => w_inS (by simpa using q)) fun _ _ _ _ q => .inr q
theorem z_notIn {K : PySem.W.Frag} : OpZ (rNotInU K) zNotIn := z_inG (K := K) (fun _ _ _ _ q => w_notInS (by simpa using q)) fun _ _ _ _ q => .inr q
def ixOk (n : Nat) (i : Int) (k : Nat) : Prop := k < n ∧ (i = k ∨ i = (k : Int) - n)
theorem ixOk.at {α : Type} {xs : List α} {i : Int} {k : Nat} {v : α} (h : ixOk xs.length i k) (hv : xs[k]? = some v) : atI xs i = some v := by
  obtain ⟨h1, h2⟩ := h
  unfold atI ixN
  rcases h2 with e | e
  · rw [if_pos (by omega), if_pos (by omega)]
    simp only [Option.bind]
    rw [e]; simpa using hv
  · rw [if_neg (by omega), if_pos (by omega)]
    simp only [Option.bind]
    have : (i + (xs.length : Int)).toNat = k := by omega
    rw [this]; exact hv
def zIx0 (x y : Dt) (R : DQ) : Prop := match x, y with
  | .str l, .int i => l.length ≤ 16777216 ∧ ∃ k, ixOk l.length i k ∧ ∀ ch, l[k]? = some ch → R false (.str [ch])
  | .lst ds, .int i => ∃ k, ixOk ds.length i k ∧ ∀ d, ds[k]? = some d → R false d
  | .tup ds, .int i => ∃ k, ixOk ds.length i k ∧ ∀ d, ds[k]? = some d → R false d
  | _, _ => False
theorem z_ix0 {K : PySem.W.Frag} : OpZ (rIxU K) zIx0 := by
  intro c L H x y dx dy Q R h wx wy hr k
  unfold zIx0 at hr
  split at hr
  · obtain ⟨hl, j, hj, hr⟩ := hr
    rw [wx.scal_str h, wy.scal_int h]
    rename_i l i
    have hj1 := hj.1
    have hc : l[j]? = some l[j] := List.getElem?_eq_getElem hj.1
    exact .inl ⟨l, i, l[j], rfl, rfl, by rw [sizeLine_eq]; exact hl, hj.at hc, k _ _ _ _ (hr _ hc) (h.str _)⟩
  · obtain ⟨j, hj, hr⟩ := hr
    rename_i ds i
    obtain ⟨p, xs, rfl, g1, g2⟩ := wx.lst h
    rw [wy.scal_int h]
    have hj1 := hj.1
    have hc : ds[j]? = some ds[j] := List.getElem?_eq_getElem hj.1
    obtain ⟨v, hv, fv⟩ := g2.get hc
    exact .inr (.inr ⟨p, xs, i, v, rfl, rfl, SqL.of g1, ixOk.at (by rw [g2.length]; exact hj) hv, k _ _ _ _ (hr _ hc) (h.fr fv)⟩)
  · obtain ⟨j, hj, hr⟩ := hr
    rename_i ds i
    obtain ⟨p, xs, rfl, _, g1, g2⟩ := wx.tup h
    rw [wy.scal_int h]
    have hj1 := hj.1
    have hc : ds[j]? = some ds[j] := List.getElem?_eq_getElem hj.1
    obtain ⟨v, hv, fv⟩ := g2.get hc
    exact .inr (.inl ⟨p, xs, i, v, rfl, rfl, .inl g1, ixOk.at (by rw [g2.length]; exact hj) hv, k _ _ _ _ (hr _ hc) (h.fr fv)⟩)
  · exact hr.elim
def zIx (x y : Dt) (R : DQ) : Prop := zIx0 (fgt x) (fgt y) R
theorem z_ix {K : PySem.W.Frag} : OpZ (rIxU K) zIx := z_ix0.fgt
def rSlTZ : V → Option Int → Option Int → Hp → VK → Prop := fun x lo hi H Q => ∃ a xs, x = .ref a ∧ Rd H a (.tup xs) ∧ (cutL xs lo hi = xs → Q (.ref a) H) ∧ ∀ p, H p = none → Q (.ref p) (upd H p (.tup (cutL xs lo hi)))
theorem sl_TZ {X : Cx} : L2.SlR X rSlTZ := SlR.wk (r := rSlA X.K) sl_tupA fun x lo hi H Q ⟨a, xs, e, h, q, q'⟩ => ⟨a, xs, e, .inl h, fun c => q (cut_whole c), fun _ p hp => q' p hp⟩
def rSlZ : V → Option Int → Option Int → Hp → VK → Prop := fun x lo hi H Q => rSlX x lo hi H Q ∨ rSlLX x lo hi H Q ∨ rSlTZ x lo hi H Q
theorem sl_Z {X : Cx} : L2.SlR X rSlZ := SlR.or sl_X (SlR.or sl_LX sl_TZ)
def zSl0 (x : Dt) (lo hi : Option Int) (R : DQ) : Prop := match x with
  | .str l => l.length ≤ 16777216 ∧ R false (.str (cutL l lo hi))
  | .lst ds => R true (.lst (cutL ds lo hi))
  | .tup ds => R false (.tup (cutL ds lo hi))
  | _ => False
theorem FrAll.cut {A : Addr → Prop} {H : Hp} {ds : List Dt} {vs : List V} (lo hi : Option Int) (r : FrAll A H ds vs) : FrAll A H (cutL ds lo hi) (cutL vs lo hi) := by
  unfold cutL
  rw [r.length]
  exact (r.drop _).take _
theorem cutL_fix {α : Type} {l : List α} {lo hi : Option Int} (h : (cutL l lo hi).length = l.length) : cutL l lo hi = l := by
  unfold cutL at h ⊢
  rw [List.length_take, List.length_drop] at h
  by_cases e : l.length = 0
  · have : l = [] := List.eq_nil_of_length_eq_zero e
    subst this; simp
  · have e1 : HT.sIx l.length 0 lo = 0 := by omega
    rw [e1] at h ⊢
    rw [List.drop_zero]
    exact List.take_of_length_le (by omega)
theorem z_sl0 : ∀ (lo hi : Option Int), UnZ (fun x H Q => rSlZ x lo hi H Q) (fun x R => zSl0 x lo hi R) := by
  intro lo hi c L H x dx Q R h wx hr k
  unfold zSl0 at hr
  split at hr
  · rw [wx.scal_str h]
    exact .inl ⟨_, rfl, by rw [sizeLine_eq]; exact hr.1, k _ _ _ _ hr.2 (h.str _)⟩
  · obtain ⟨p, xs, rfl, g1, g2⟩ := wx.lst h
    exact .inr (.inl ⟨p, xs, rfl, g1, fun r H2 hp e h5 => k _ _ _ _ hr (h.newL (g2.cut lo hi) hp e h5)⟩)
  · obtain ⟨p, xs, rfl, g0, g1, g2⟩ := wx.tup h
    refine .inr (.inr ⟨p, xs, rfl, g1, fun e => k _ _ _ _ hr (h.fr ?_), fun r hp => k _ _ _ _ hr (h.newT (g2.cut lo hi) hp (Ex.new hp) upd_same)⟩)
    rename_i ds
    have : cutL ds lo hi = ds := cutL_fix (by
      have := (g2.cut lo hi).length
      rw [← this, e, g2.length])
    rw [this]
    exact ⟨p, xs, rfl, g0, g1, g2⟩
  · exact hr.elim
def zSl (x : Dt) (lo hi : Option Int) (R : DQ) : Prop := zSl0 (fgt x) lo hi R
theorem z_sl : ∀ (lo hi : Option Int), UnZ (fun x H Q => rSlZ x lo hi H Q) (fun x R => zSl x lo hi R) := fun lo hi => (z_sl0 lo hi).fgt
def zLen0 (x : Dt) (R : DQ) : Prop := match x with
  | .str l => l.length ≤ 16777216 ∧ R false (.int l.length)
  | .lst ds => R false (.int ds.length)
  | .tup ds => R false (.int ds.length)
  | _ => False
theorem z_len0 {K : PySem.W.Frag} : UnZ (fun x H Q => rLenU K [x] H Q) zLen0 := by
  intro c L H x dx Q R h wx hr k
  unfold zLen0 at hr
  split at hr
  · rw [wx.scal_str h]
    exact w_lenX (by rw [sizeLine_eq]; exact hr.1) (k _ _ _ _ hr.2 (h.int _))
  · obtain ⟨p, xs, rfl, g1, g2⟩ := wx.lst h
    refine w_lenL g1 ?_
    rw [g2.length]
    exact k _ _ _ _ hr (h.int _)
  · obtain ⟨p, xs, rfl, g0, g1, g2⟩ := wx.tup h
    refine w_lenU g1 ?_
    rw [g2.length]
    exact k _ _ _ _ hr (h.int _)
  · exact hr.elim
def zLen (x : Dt) (R : DQ) : Prop := zLen0 (fgt x) R
theorem z_len {K : PySem.W.Frag} : UnZ (fun x H Q => rLenU K [x] H Q) zLen := z_len0.fgt
def zAbs (x : Dt) (R : DQ) : Prop := match x with
  | .int i => R false (.int (if i < 0 then -i else i))
  | _ => False
theorem z_abs : UnZ (fun x H Q => (fun xs (H : Hp) (Q : VK) => ∃ i, xs = [V.int i] ∧ Q (.int (if i < 0 then -i else i)) H) [x] H Q) zAbs := by
  intro c L H x dx Q R h wx hr k
  unfold zAbs at hr
  split at hr
  · rw [wx.scal_int h]
    exact ⟨_, rfl, k _ _ _ _ hr (h.int _)⟩
  · exact hr.elim
def zAll (x : Dt) (R : DQ) : Prop := match x with
  | .lst ds => ∃ bs : List Bool, ds = bs.map .bl ∧ R false (.bl (bs.all id))
  | _ => False
theorem z_all {K : PySem.W.Frag} : UnZ (fun x H Q => rAll K [x] H Q) zAll := by
  intro c L H x dx Q R h wx hr k
  unfold zAll at hr
  split at hr
  · obtain ⟨bs, rfl, hr⟩ := hr
    obtain ⟨p, xs, rfl, g1, g2⟩ := wx.lst h
    rw [g2.bls_inv] at g1
    exact w_all g1 (k _ _ _ _ hr (h.bl _))
  · exact hr.elim
/-- list(..) -/
def zList0 (x : Dt) (R : DQ) : Prop := match x with
  | .str l => l.length ≤ 16777216 ∧ R true (.lst (l.map fun ch => .str [ch]))
  | .lst ds => R true (.lst ds)
  | .tup ds => R true (.lst ds)
  | _ => False
theorem FrAll.signs {A : Addr → Prop} {H : Hp} (l : List Nat) : FrAll A H (l.map fun ch => .str [ch]) (l.map fun ch => Tx [ch]) := by
  have := FrAll.strs (A := A) (H := H) (l.map fun ch => [ch])
  rw [List.map_map, List.map_map] at this
  exact this
theorem z_list0 {K : PySem.W.Frag} : UnZ (fun x H Q => rListU K [x] H Q) zList0 := by
  intro c L H x dx Q R h wx hr k
  unfold zList0 at hr
  split at hr
  · rw [wx.scal_str h]
    exact w_listX (by rw [sizeLine_eq]; exact hr.1) fun r H2 hp e h5 => k _ _ _ _ hr.2 (h.newL (FrAll.signs _) hp e h5)
  · obtain ⟨p, xs, rfl, g1, g2⟩ := wx.lst h
    exact w_listL g1 fun r H2 hp e h5 => k _ _ _ _ hr (h.newL g2 hp e h5)
  · obtain ⟨p, xs, rfl, g0, g1, g2⟩ := wx.tup h
    exact w_listU g1 fun r H2 hp e h5 => k _ _ _ _ hr (h.newL g2 hp e h5)
  · exact hr.elim
def zList (x : Dt) (R : DQ) : Prop := zList0 (fgt x) R
theorem z_list {K : PySem.W.Frag} : UnZ (fun x H Q => rListU K [x] H Q) zList := z_list0.fgt
/-- text[::-1], list[::-1] -/
def zRev (x : Dt) (R : DQ) : Prop := match x with
  | .str l => l.length ≤ 16777216 ∧ R false (.str l.reverse)
  | _ => False
def zRevL (x : Dt) (R : DQ) : Prop := match x with
  | .lst ds => R true (.lst ds.reverse)
  | _ => False
theorem z_rev : UnZ (fun x (H1 : Hp) (Q : VK) => ∃ l, x = Tx l ∧ l.length ≤ sizeLine ∧ Q (Tx l.reverse) H1) zRev := by
  intro c L H x dx Q R h wx hr k
  unfold zRev at hr
  split at hr
  · rw [wx.scal_str h]
    exact ⟨_, rfl, by rw [sizeLine_eq]; exact hr.1, k _ _ _ _ hr.2 (h.str _)⟩
  · exact hr.elim
/-- isinstance(x, ..) -/
def tyD : Dt → String
  | .non => "NoneType" | .bl _ => "bool" | .int _ => "int" | .str _ => "str" | .tup _ => "tuple" | .tpk _ => "tuple" | .lst _ => "list" | .dic _ _ => "dict" | .dice => "list" | .val _ => "" | .ob _ _ => ""
def zIs (n : String) (x : Dt) (R : DQ) : Prop := match x with
  | .dice => False
  | .val _ => False
  | .ob _ _ => False
  | .dic _ _ => False
  | x => R false (.bl (isiB (tyD x) n))
theorem z_is {n : String} (hn : n ∈ ["int", "bool", "str", "tuple", "list"]) : UnZ (fun x H Q => rIsU [x, .ty n] H Q) (zIs n) := by
  intro c L H x dx Q R h wx hr k
  unfold zIs at hr
  split at hr
  · exact hr.elim
  · exact hr.elim
  · exact hr.elim
  · exact hr.elim
  · rename_i h1 h2 h4 h3
    cases dx
    · rw [wx.scal_non h]; exact w_is .non hn (k _ _ _ _ hr (h.bl _))
    · rw [wx.scal_bl h]; exact w_is (.bl _) hn (k _ _ _ _ hr (h.bl _))
    · rw [wx.scal_int h]; exact w_is (.int _) hn (k _ _ _ _ hr (h.bl _))
    · rw [wx.scal_str h]; exact w_is (.str _) hn (k _ _ _ _ hr (h.bl _))
    · obtain ⟨p, xs, rfl, g0, g1, g2⟩ := wx.tup h
      exact w_is (.tup g1) hn (k _ _ _ _ hr (h.bl _))
    · obtain ⟨p, xs, o, rfl, _, g1, _, _⟩ := wx.tpk h
      exact w_is (.tup (.inr ⟨o, g1⟩)) hn (k _ _ _ _ hr (h.bl _))
    · obtain ⟨p, xs, rfl, g1, g2⟩ := wx.lst h
      exact w_is (.lst g1) hn (k _ _ _ _ hr (h.bl _))
    · exact absurd rfl (h3 _ _)
    · exact absurd rfl h1
    · exact absurd rfl (h2 _)
    · exact absurd rfl (h4 _ _)
/-- x.join(..) -/
def zJoin0 (x y : Dt) (R : DQ) : Prop := match x, y with
  | .str a, .lst ds => ∃ ls : List (List Nat), ds = ls.map .str ∧ (ls.map (·.length)).sum + ls.length * a.length ≤ 16777216 ∧ R false (.str (TL.joinL a ls))
  | .str a, .tup ds => ∃ ls : List (List Nat), ds = ls.map .str ∧ (ls.map (·.length)).sum + ls.length * a.length ≤ 16777216 ∧ R false (.str (TL.joinL a ls))
  | _, _ => False
theorem z_join0 {K : PySem.W.Frag} : OpZ (fun x y H Q => tyV K "str" x H ∧ rJoinX K x [y] H Q) zJoin0 := by
  intro c L H x y dx dy Q R h wx wy hr k
  unfold zJoin0 at hr
  split at hr
  · obtain ⟨ls, rfl, hl, hr⟩ := hr
    rw [wx.scal_str h]
    obtain ⟨p, xs, rfl, g1, g2⟩ := wy.lst h
    rw [g2.strs_inv] at g1
    exact ⟨ty_str, _, _, _, rfl, rfl, .inl (SqL.of g1), hl, k _ _ _ _ hr (h.str _)⟩
  · obtain ⟨ls, rfl, hl, hr⟩ := hr
    rw [wx.scal_str h]
    obtain ⟨p, xs, rfl, _, g1, g2⟩ := wy.tup h
    rw [g2.strs_inv] at g1
    exact ⟨ty_str, _, _, _, rfl, rfl, .inr (.inl g1), hl, k _ _ _ _ hr (h.str _)⟩
  · exact hr.elim
def zJoin (x y : Dt) (R : DQ) : Prop := zJoin0 (fgt x) (fgt y) R
theorem z_join {K : PySem.W.Frag} : OpZ (fun x y H Q => tyV K "str" x H ∧ rJoinX K x [y] H Q) zJoin := z_join0.fgt
end Lt
namespace Lt
open PySem PySem.Spec PyProof.Rows L2 Evl
open SX (S)
variable [ZI]
inductive Opd where
  | e (tp : PTE) | s (k : Nat) | c (k : Nat)
@[reducible] def pSl (s : PSt) (k : Nat) : Option Dt := match s[k]? with
  | some (.fz d) => some d
  | some (.ow d) => some d
  | _ => none
/-- .. of a cluster, looked at as a whole -/
@[reducible] def pSlC (s : PSt) (k : Nat) : Option Dt := match s[k]? with
  | some (.cl C) => C.dv
  | _ => none
@[reducible] def pOpd : Opd → PSt → ((PSt → Option Dt) → PSt → Prop) → Prop
  | .e tp, s, Q => tp s fun _ d s' => Q (fun _ => some d) s'
  | .s k, s, Q => match pSl s k with
    | none => False
    | some _ => Q (fun s' => pSl s' k) s
  | .c k, s, Q => match pSlC s k with
    | none => False
    | some _ => Q (fun s' => pSlC s' k) s
def CO (c : Ctx) (t : TE) (o : Opd) : Prop := ∀ (F : List Pc) (s : PSt) (σ : L2.St) (H : Hp) (Q : VK) (R : (PSt → Option Dt) → PSt → Prop), Rel c s σ F H → pOpd o s R →
  (∀ g s' v H' F', R g s' → Rel c s' σ (F' ++ F) H' → (∀ s2 F2 H2 d, g s2 = some d → Rel c s2 σ (F2 ++ (F' ++ F)) H2 → Wk (s2.zip σ ++ (F2 ++ (F' ++ F))) d v) → Q v H') → t σ H Q
section
variable {c : Ctx} {t ta tb tc : TE} {tp pa pb : PTE} {o oa ob oc : Opd} {r r' : R2} {rp rp' : Dt → Dt → DQ → Prop}
theorem Rel.res {s : PSt} {σ : L2.St} {F F2 : List Pc} {H : Hp} {x : Pc} (e : s.length = σ.length) (h : RelL c (x :: (s.zip σ ++ (F2 ++ F))) H) : Rel c s σ (x :: F) H :=
  (Rel.of_top e h).sub (.cons_cons _ (List.sublist_append_right _ _))
theorem co_e (h : CE c t tp) : CO c t (.e tp) := fun F s σ H Q R hr hp k => h F s σ H Q _ hr hp fun b d s' v H' q hr' =>
  k _ s' v H' [(.fz d, some v)] q hr'.mkfz fun s2 F2 H2 d' e _ => by
    cases e
    exact .inl (List.mem_append_right _ (List.mem_append_right _ (List.mem_append_left _ (List.mem_singleton.mpr rfl))))
theorem pSl_some {s : PSt} {k : Nat} {d : Dt} (h : pSl s k = some d) : s[k]? = some (.fz d) ∨ s[k]? = some (.ow d) := by
  unfold pSl at h
  split at h <;> cases h
  · exact .inl (by assumption)
  · exact .inr (by assumption)
theorem Rel.slot {s : PSt} {σ : L2.St} {F : List Pc} {H : Hp} {k : Nat} {d : Dt} (h : Rel c s σ F H) (e : pSl s k = some d) : ∃ v, σ[k]? = some (some v) ∧ Wk (s.zip σ) d v := by
  rcases pSl_some e with e | e
  · obtain ⟨b, hb, hm⟩ := mem_zip h.1 e
    have := h.2.ok _ (List.mem_append_left _ hm)
    cases b with
    | none => exact this.elim
    | some v => exact ⟨v, hb, .inl hm⟩
  · obtain ⟨b, hb, hm⟩ := mem_zip h.1 e
    have := h.2.ok _ (List.mem_append_left _ hm)
    cases b with
    | none => exact this.elim
    | some v => exact ⟨v, hb, .inr (.inl hm)⟩
theorem co_s (k : Nat) : CO c (tVar k) (.s k) := fun F s σ H Q R hr hp kk => by
  cases hd : pSl s k with
  | none => simp [pOpd, hd] at hp
  | some d =>
    have hp : R (fun s' => pSl s' k) s := by simpa [pOpd, hd] using hp
    obtain ⟨v, hv, hw⟩ := hr.slot hd
    refine ⟨v, hv, kk _ s v H [] hp hr fun s2 F2 H2 d' e h2 => ?_⟩
    obtain ⟨v', hv', hw'⟩ := h2.slot e
    rw [hv] at hv'
    cases hv'
    rcases hw' with q | q | ⟨C, u, q, hl⟩
    · exact .inl (List.mem_append_left _ q)
    · exact .inr (.inl (List.mem_append_left _ q))
    · exact .inr (.inr ⟨C, u, List.mem_append_left _ q, hl⟩)
@[reducible] def pOp (rp : Dt → Dt → DQ → Prop) (oa ob : Opd) : PTE := fun s Q => pOpd oa s fun ga s1 => pOpd ob s1 fun gb s2 => match ga s2, gb s2 with
  | some x, some y => rp x y fun b d => Q b d s2
  | _, _ => False
theorem ce_op (ha : CO c ta oa) (hb : CO c tb ob) (hr : OpZ r rp) : CE c (tOp r ta tb) (pOp rp oa ob) := fun F s σ H Q R h hp k =>
  ha F s σ H _ _ h hp fun ga s1 v1 H1 F1 q1 h1 w1 => hb _ s1 σ H1 _ _ h1 q1 fun gb s2 v2 H2 F2 q2 h2 w2 => by
    split at q2
    · rename_i x y ex ey
      refine hr c _ H2 v1 v2 x y Q _ h2.2 (w1 s2 F2 H2 x ex h2) (w2 s2 [] H2 y ey h2) q2 fun b d v H' rd hl => k _ _ _ _ _ rd ?_
      exact Rel.res (F2 := F2 ++ F1) h2.1 (by rw [List.append_assoc]; exact hl)
    · exact q2.elim
@[reducible] def pUn (rp : Dt → DQ → Prop) (oa : Opd) : PTE := fun s Q => pOpd oa s fun ga s1 => match ga s1 with
  | some x => rp x fun b d => Q b d s1
  | _ => False
theorem un_core {r : V → Hp → VK → Prop} {rp : Dt → DQ → Prop} (ha : CO c ta oa) (hr : UnZ r rp) : CE c (fun σ H Q => ta σ H fun x H1 => r x H1 Q) (pUn rp oa) := fun F s σ H Q R h hp k =>
  ha F s σ H _ _ h hp fun ga s1 v1 H1 F1 q1 h1 w1 => by
    split at q1
    · rename_i x ex
      exact hr c _ H1 v1 x Q _ h1.2 (w1 s1 [] H1 x ex h1) q1 fun b d v H' rd hl => k _ _ _ _ _ rd (Rel.res (F2 := F1) h1.1 hl)
    · exact q1.elim
theorem ce_un {r : V → Hp → VK → Prop} {rp : Dt → DQ → Prop} (ha : CO c ta oa) (hr : UnZ r rp) : CE c (tUn r ta) (pUn rp oa) := un_core (ta := ta) ha hr
theorem ce_cb1 {r : List V → Hp → VK → Prop} {rp : Dt → DQ → Prop} (ha : CO c ta oa) (hr : UnZ (fun x H Q => r [x] H Q) rp) : CE c (tCB r (tCons ta tNil)) (pUn rp oa) := un_core (ta := ta) ha hr
theorem ce_is {n : String} (ha : CO c ta oa) (hn : n ∈ ["int", "bool", "str", "tuple", "list"]) : CE c (tCB rIsU (tCons ta (tCons (tC (.ty n)) tNil))) (pUn (zIs n) oa) := un_core (ta := ta) ha (z_is hn)
theorem ce_rev (ha : CO c ta oa) : CE c (tRevX ta) (pUn zRev oa) := un_core (ta := ta) ha z_rev
/-- names, constants -/
@[reducible] def pVar (k : Nat) : PTE := fun s Q => match s[k]? with
  | some (.fz d) => Q false d s
  | some (.ow d) => Q false d (s.set k (.fz d))
  | _ => False
theorem ce_var (k : Nat) : CE c (tVar k) (pVar k) := fun F s σ H Q R h hp kk => by
  unfold pVar at hp
  split at hp
  · rename_i d e
    obtain ⟨v, hv, h2⟩ := h.get e
    exact ⟨v, hv, kk _ _ _ _ _ hp h2⟩
  · rename_i d e
    have h1 := h.frz e
    have hk := (List.getElem?_eq_some_iff.mp e).1
    obtain ⟨v, hv, h2⟩ := h1.get (k := k) (d := d) (by rw [List.getElem?_set_self hk])
    exact ⟨v, hv, kk _ _ _ _ _ hp h2⟩
  · exact hp.elim
@[reducible] def pC (d : Dt) : PTE := fun s Q => Q false d s
theorem ce_c {d : Dt} {v : V} (hd : ∀ A H, Fr A H d v) : CE c (tC v) (pC d) := fun F s σ H Q R h hp kk => kk _ _ _ _ _ hp (.of_top h.1 (h.2.fr (hd _ _)))
theorem ce_int {i : Int} : CE c (tC (.int i)) (pC (.int i)) := ce_c fun _ _ => rfl
theorem ce_str {l : List Nat} : CE c (tC (Tx l)) (pC (.str l)) := ce_c fun _ _ => rfl
theorem ce_bl {b : Bool} : CE c (tC (.bl b)) (pC (.bl b)) := ce_c fun _ _ => rfl
theorem ce_non : CE c (tC .non) (pC .non) := ce_c fun _ _ => rfl
/-- cuts -/
def pCutE (tp : PTE) : PTE := fun s Q => ∃ R : PQ, tp s R ∧ ∀ b d s', R b d s' → Q b d s'
theorem ce_cut (h : CE c t tp) : CE c (tCutE t) (pCutE tp) := fun F s σ H Q R hr ⟨R', hp, w⟩ k => ⟨Q, h F s σ H Q R' hr hp fun b d s' v H' q => k b d s' v H' (w b d s' q), fun _ _ q => q⟩
theorem ce_cut0 (h : CE c t tp) : CE c (tCutE t) tp := fun F s σ H Q R hr hp k => ⟨Q, h F s σ H Q R hr hp k, fun _ _ q => q⟩
/-- slices -/
theorem cp_no : CP c tNoPart (fun s Q => Q none s) := fun F s σ H Q R h hp k => k _ _ _ hp h
@[reducible] def pPart (tp : PTE) : PTO := fun s Q => tp s fun _ d s' => match d with
  | .int i => Q (some i) s'
  | _ => False
theorem cp_part (h : CE c t tp) : CP c (tPart t) (pPart tp) := fun F s σ H Q R hr hp k => h F s σ H _ _ hr hp fun b d s' v H' q hr' => by
  split at q
  · rename_i i
    have : v = .int i := hr'.mkfz.top.ok _ (List.mem_cons_self ..)
    exact ⟨i, this, k _ _ _ q hr'.drop⟩
  · exact q.elim
@[reducible] def pSlc (oa : Opd) (pl ph : PTO) : PTE := fun s Q => pOpd oa s fun ga s1 => pl s1 fun lo s2 => ph s2 fun hi s3 => match ga s3 with
  | some x => zSl x lo hi fun b d => Q b d s3
  | _ => False
theorem ce_sl {tl th : L2.TO} {pl ph : PTO} (ha : CO c ta oa) (hl : CP c tl pl) (hh : CP c th ph) : CE c (tSl rSlZ ta tl th) (pSlc oa pl ph) := fun F s σ H Q R h hp k =>
  ha F s σ H _ _ h hp fun ga s1 v1 H1 F1 q1 h1 w1 => hl _ s1 σ H1 _ _ h1 q1 fun lo s2 H2 q2 h2 => hh _ s2 σ H2 _ _ h2 q2 fun hi s3 H3 q3 h3 => by
    split at q3
    · rename_i x ex
      exact z_sl lo hi c _ H3 v1 x Q _ h3.2 (w1 s3 [] H3 x ex h3) q3 fun b d v H' rd hl => k _ _ _ _ _ rd (Rel.res (F2 := F1) h3.1 hl)
    · exact q3.elim
/-- argument lists, displays -/
@[reducible] def pNil : PTA := fun s Q => Q [] s
@[reducible] def pCons (pa : PTE) (pr : PTA) : PTA := fun s Q => pa s fun _ d s1 => pr s1 fun ds s2 => Q (d :: ds) s2
theorem ca_nil : CA c tNil pNil := fun F s σ H Q R h hp k => k _ _ _ _ hp rfl h
theorem ca_cons {tr : TA} {pr : PTA} (ha : CE c ta pa) (hb : CA c tr pr) : CA c (tCons ta tr) (pCons pa pr) := fun F s σ H Q R h hp k =>
  ha F s σ H _ _ h hp fun b d s1 v H1 q1 h1 => hb _ s1 σ H1 _ _ h1.mkfz q1 fun ds s2 vs H2 q2 e h2 => k _ _ _ _ q2 (by simp [e]) (by
    refine h2.perm ?_
    show (fzs ds vs ++ (_ :: F)).Perm (_ :: fzs ds vs ++ F)
    exact List.perm_middle)
theorem owns_fzs {L : List Pc} : ∀ {ds : List Dt} {vs : List V}, owns (fzs ds vs ++ L) = owns L
  | [], _ => by unfold fzs; simp
  | _ :: _, [] => by unfold fzs; simp
  | d :: ds, v :: vs => by
    show owns (fzs ds vs ++ L) = owns L
    exact owns_fzs
theorem fzs_all {ds : List Dt} : ∀ {vs : List V} {L : List Pc} {H : Hp}, ds.length = vs.length → RelL c (fzs ds vs ++ L) H → FrAll (Al c L) H ds vs := by
  induction ds with
  | nil => intro vs L H e _; exact List.eq_nil_of_length_eq_zero e.symm
  | cons d ds ih =>
    intro vs L H e h
    cases vs with
    | nil => cases e
    | cons v vs =>
      have e' : ds.length = vs.length := by simpa using e
      have o : owns (fzs (d :: ds) (v :: vs) ++ L) = owns L := by
        clear ih h e
        show owns (fzs ds vs ++ L) = owns L
        exact owns_fzs
      have h0 := h.ok (.fz d, some v) (List.mem_append_left _ (by unfold fzs; rw [List.zipWith_cons_cons]; exact List.mem_cons_self ..))
      have ea : Al c (fzs (d :: ds) (v :: vs) ++ L) = Al c L := by funext a; unfold Al; rw [o]
      rw [ea] at h0
      exact .cons h0 (ih e' (RelL.drop (x := (.fz d, some v)) h))
theorem fzs_drop {ds : List Dt} {vs : List V} {s : PSt} {σ : L2.St} {F : List Pc} {H : Hp} (h : Rel c s σ (fzs ds vs ++ F) H) : Rel c s σ F H := h.sub (List.sublist_append_right _ _)
theorem fzs_fr {ds : List Dt} {vs : List V} {s : PSt} {σ : L2.St} {F : List Pc} {H : Hp} (e : ds.length = vs.length) (h : Rel c s σ (fzs ds vs ++ F) H) : FrAll (Al c (s.zip σ ++ F)) H ds vs :=
  fzs_all e (h.2.perm (by
    rw [← List.append_assoc, ← List.append_assoc]
    exact List.Perm.append List.perm_append_comm (.refl _)))
@[reducible] def pTup (pa : PTA) : PTE := fun s Q => pa s fun ds s' => ds.length ≤ 1000 ∧ Q false (.tup ds) s'
@[reducible] def pLst (pa : PTA) : PTE := fun s Q => pa s fun ds s' => ds.length ≤ 1000 ∧ Q true (.lst ds) s'
theorem ce_tup {t : TA} {pa : PTA} (ha : CA c t pa) : CE c (tTupX t) (pTup pa) := fun F s σ H Q R h hp k =>
  ha F s σ H _ _ h hp fun ds s1 vs H1 ⟨hl, q⟩ e h1 => ⟨by rw [← e, sizeLine_eq]; omega, fun p H2 hn ex h2 => k _ _ _ _ _ q (.of_top h1.1 ((fzs_drop h1).2.newT (fzs_fr e h1) hn ex h2))⟩
theorem ce_lst {t : TA} {pa : PTA} (ha : CA c t pa) : CE c (tLstX t) (pLst pa) := fun F s σ H Q R h hp k =>
  ha F s σ H _ _ h hp fun ds s1 vs H1 ⟨hl, q⟩ e h1 => ⟨by rw [← e, sizeLine_eq]; omega, fun p H2 hn ex h2 => k _ _ _ _ _ q (.of_top h1.1 ((fzs_drop h1).2.newL (fzs_fr e h1) hn ex h2))⟩
/-- if-expressions, and, or, not, chains -/
@[reducible] def pIf (tt : PTT) (pa pb : PTE) : PTE := fun s Q => tt s fun b s1 => if b = true then pa s1 Q else pb s1 Q
theorem ce_if {tt : TT} {pt : PTT} (ht : CT c tt pt) (ha : CE c ta pa) (hb : CE c tb pb) : CE c (tIf tt ta tb) (pIf pt pa pb) := fun F s σ H Q R h hp k =>
  ht F s σ H _ _ h hp fun b s1 H1 q h1 => by
    cases b with
    | true => exact ha F s1 σ H1 Q R h1 (by simpa using q) k
    | false => exact hb F s1 σ H1 Q R h1 (by simpa using q) k
theorem bl_of {s : PSt} {σ : L2.St} {F : List Pc} {H : Hp} {b k : Bool} {v : V} (h : Rel c s σ ((mkS b (.bl k), some v) :: F) H) : v = .bl k := h.mkfz.top.ok _ (List.mem_cons_self ..)
theorem int_of {s : PSt} {σ : L2.St} {F : List Pc} {H : Hp} {b : Bool} {k : Int} {v : V} (h : Rel c s σ ((mkS b (.int k), some v) :: F) H) : v = .int k := h.mkfz.top.ok _ (List.mem_cons_self ..)
theorem str_of {s : PSt} {σ : L2.St} {F : List Pc} {H : Hp} {b : Bool} {k : List Nat} {v : V} (h : Rel c s σ ((mkS b (.str k), some v) :: F) H) : v = Tx k := h.mkfz.top.ok _ (List.mem_cons_self ..)
theorem Rel.bl {s : PSt} {σ : L2.St} {F : List Pc} {H : Hp} (h : Rel c s σ F H) (k : Bool) : Rel c s σ ((mkS false (.bl k), some (.bl k)) :: F) H := .of_top h.1 (h.2.bl k)
@[reducible] def pAndV (pa pb : PTE) : PTE := fun s Q => pa s fun _ d s1 => match d with
  | .bl b => if b = true then pb s1 Q else Q false (.bl false) s1
  | _ => False
theorem ce_and (ha : CE c ta pa) (hb : CE c tb pb) : CE c (tAndV ta tb) (pAndV pa pb) := fun F s σ H Q R h hp k =>
  ha F s σ H _ _ h hp fun b d s1 v H1 q h1 => by
    split at q
    · rename_i kk
      refine ⟨kk, bl_of h1, ?_⟩
      cases kk with
      | true => exact hb F s1 σ H1 Q R h1.drop (by simpa using q) k
      | false => exact k _ _ _ _ _ (by simpa using q) (h1.drop.bl _)
    · exact q.elim
@[reducible] def pChain (rp rp' : Dt → Dt → DQ → Prop) (oa ob oc : Opd) : PTE := fun s Q => pOpd oa s fun ga s1 => pOpd ob s1 fun gb s2 => match ga s2, gb s2 with
  | some x, some y => rp x y fun _ z => match z with
    | .bl k => if k = true then pOpd oc s2 fun gc s3 => match gb s3, gc s3 with
      | some y, some w => rp' y w fun b d => Q b d s3
      | _, _ => False
      else Q false (.bl false) s2
    | _ => False
  | _, _ => False
theorem ce_chain (ha : CO c ta oa) (hb : CO c tb ob) (hcc : CO c tc oc) (hr : OpZ r rp) (hr' : OpZ r' rp') : CE c (tChain r r' ta tb tc) (pChain rp rp' oa ob oc) := fun F s σ H Q R h hp k =>
  ha F s σ H _ _ h hp fun ga s1 v1 H1 F1 q1 h1 w1 => hb _ s1 σ H1 _ _ h1 q1 fun gb s2 v2 H2 F2 q2 h2 w2 => by
    split at q2
    · rename_i x y ex ey
      refine hr c _ H2 v1 v2 x y _ _ h2.2 (w1 s2 F2 H2 x ex h2) (w2 s2 [] H2 y ey h2) q2 fun b d v H' rd hl => ?_
      split at rd
      · rename_i kk
        have h3 : Rel c s2 σ ((mkS b (.bl kk), some v) :: (F2 ++ (F1 ++ F))) H' := .of_top h2.1 hl
        refine ⟨kk, bl_of h3, ?_⟩
        cases kk with
        | true =>
          simp only [if_true] at rd ⊢
          refine hcc _ s2 σ H' _ _ h3.drop rd fun gc s3 v3 H3 F3 q3 h4 w3 => ?_
          split at q3
          · rename_i y' z' ey' ez'
            refine hr' c _ H3 v2 v3 y' z' Q _ h4.2 (w2 s3 F3 H3 y' ey' h4) (w3 s3 [] H3 z' ez' h4) q3 fun b d v H' rd hl => k _ _ _ _ _ rd ?_
            exact Rel.res (F2 := F3 ++ (F2 ++ F1)) h4.1 (by rw [List.append_assoc, List.append_assoc]; exact hl)
          · exact q3.elim
        | false =>
          simp only [Bool.false_eq_true, if_false] at rd ⊢
          exact k _ _ _ _ _ rd (((h3.drop).sub (by rw [← List.append_assoc]; exact List.sublist_append_right _ _)).bl _)
      · exact rd.elim
    · exact q2.elim
@[reducible] def pB (tp : PTE) : PTT := fun s Q => tp s fun _ d s' => match d with
  | .bl k => Q k s'
  | _ => False
theorem ct_B (h : CE c t tp) : CT c (tB t) (pB tp) := fun F s σ H Q R hr hp k => h F s σ H _ _ hr hp fun b d s' v H' q hr' => by
  split at q
  · exact ⟨_, bl_of hr', k _ _ _ q hr'.drop⟩
  · exact q.elim
theorem ct_test (h : CE c t tp) : CT c (tTest t) (pB tp) := ct_B h
variable {tt tu : TT} {pt pu : PTT}
@[reducible] def pAnd (pt pu : PTT) : PTT := fun s Q => pt s fun b s1 => if b = true then pu s1 Q else Q false s1
@[reducible] def pOr (pt pu : PTT) : PTT := fun s Q => pt s fun b s1 => if b = true then Q true s1 else pu s1 Q
@[reducible] def pNot (pt : PTT) : PTT := fun s Q => pt s fun b s1 => Q (!b) s1
theorem ct_and (ha : CT c tt pt) (hb : CT c tu pu) : CT c (tAnd tt tu) (pAnd pt pu) := fun F s σ H Q R h hp k => ha F s σ H _ _ h hp fun b s1 H1 q h1 => by
  cases b with
  | true => exact hb F s1 σ H1 Q R h1 (by simpa using q) k
  | false => exact k _ _ _ (by simpa using q) h1
theorem ct_or (ha : CT c tt pt) (hb : CT c tu pu) : CT c (tOr tt tu) (pOr pt pu) := fun F s σ H Q R h hp k => ha F s σ H _ _ h hp fun b s1 H1 q h1 => by
  cases b with
  | true => exact k _ _ _ (by simpa using q) h1
  | false => exact hb F s1 σ H1 Q R h1 (by simpa using q) k
theorem ct_not (ha : CT c tt pt) : CT c (tNot tt) (pNot pt) := fun F s σ H Q R h hp k => ha F s σ H _ _ h hp fun b s1 H1 q h1 => k _ _ _ q h1
theorem ct_cut0 (h : CT c tt pt) : CT c (tCutT tt) pt := fun F s σ H Q R hr hp k => ⟨Q, h F s σ H Q R hr hp k, fun _ _ q => q⟩
@[reducible] def pYes : PTT := fun s Q => Q true s
theorem ct_yes : CT c tYes pYes := fun F s σ H Q R h hp k => k _ _ _ hp h
/-- a program without special objects -/
def ziE : ZI where
  ch _ := False
  ch_fix _ h := h
  ch_ext h := h.elim
  sp _ _ _ a b := a = b
  sp_rfl _ := rfl
  sp_trans h _ k := h.trans k
  sp_ch h := .inl h.symm
  Z _ := True
  ob _ _ _ _ _ := False
  ob_ref h := h.elim
  ob_mono _ h := h.elim
  ob_lock _ h := h.elim
abbrev PF := List Dt → DQ → Prop
def PureOf (sp : Sp) (pf : PF) (E : XK) : Prop := ∀ (c : Ctx) (L : List Pc) (H : Hp) (vs : List V) (ds : List Dt) (Q : VK) (R : DQ), RelL c L H → FrAll (Al c L) H ds vs → pf ds R → (∀ b d v H', R b d → RelL (subCtx c L H) [(mkS b d, some v)] H' → Q v H') → sp vs H Q E
def baseCtx (A Zd : Addr → Prop) (H : Hp) : Ctx := ⟨H, fun a => A a ∨ H a = none, fun _ => .inr, fun b => H b ≠ none ∧ Zd b, fun _ h => h.1⟩
/-- the special objects of a heap -/
def IvH (H : Hp) : Prop := ∃ Hz, ZI.Z Hz ∧ ∀ b o, Hz b = some o → H b = some o ∧ zO o = true
theorem IvH.ex {H H' : Hp} (h : IvH H) (e : Ex H H') : IvH H' := by
  obtain ⟨Hz, h1, h2⟩ := h
  exact ⟨Hz, h1, fun b o k => ⟨e _ _ (h2 b o k).1, (h2 b o k).2⟩⟩
theorem IvH.base {H : Hp} {A : Addr → Prop} (h : IvH H) : Iv (baseCtx A (fun _ => True) H) H := by
  obtain ⟨Hz, h1, h2⟩ := h
  exact ⟨Hz, h1, fun b o k => ⟨(h2 b o k).1, (h2 b o k).2, .inl ⟨by rw [(h2 b o k).1]; simp, trivial⟩⟩⟩
/-- a def's promise, of data -/
def spZ (pf : PF) : Sp := fun vs H Q _ => ∃ (A Zd : Addr → Prop) (ds : List Dt) (R : DQ), FrAll A H ds vs ∧ Iv (baseCtx A Zd H) H ∧ pf ds R ∧ ∀ b d v H', R b d → RelL (baseCtx A Zd H) [(mkS b d, some v)] H' → Q v H'
theorem pure_spZ {pf : PF} {E : XK} : PureOf (spZ pf) pf E := fun c L H vs ds Q R h hf hp k => ⟨Al c L, fun b => c.Zd b ∨ c.H0 b = none, ds, R, hf, Iv.sub h, hp, k⟩
@[reducible] def pCall (pf : PF) (pa : PTA) : PTE := fun s Q => pa s fun ds s' => pf ds fun b d => Q b d s'
theorem ce_call {sp : Sp} {pf : PF} {E : XK} {t : TA} {pa : PTA} (ha : CA c t pa) (hf : PureOf sp pf E) : CE c (tCall sp [] E t) (pCall pf pa) := fun F s σ H Q R h hp k =>
  ha F s σ H _ _ h hp fun ds s1 vs H1 q e h1 => by
    show sp (vs ++ []) H1 Q E
    rw [List.append_nil]
    exact hf c _ H1 vs ds Q _ (fzs_drop h1).2 (fzs_fr e h1) q fun b d v H' rd hl => k _ _ _ _ _ rd (.of_top h1.1 ((fzs_drop h1).2.call hl))
end
end Lt
namespace Lt
open PySem PySem.Spec PyProof.Rows L2 Evl
open SX (S)
variable [ZI]
section
variable {c : Ctx} {t ta tb tc : TE} {tp pa pb : PTE} {o oa ob oc : Opd} {r r' : R2} {rp rp' : Dt → Dt → DQ → Prop} {ts us : TS} {ps pu : PTS} {K : PySem.W.Frag}
/-- .. with more pieces about -/
theorem Lk.rs' {F : List Pc} {D : Ends} {P : PEnds} (h : Lk c F D P) (F' : List Pc) : ∀ s σ sl v H, P.rs s sl → Rel c s σ ((sl, some v) :: (F' ++ F)) H → D.rt v H := fun s σ sl v H q r => h.rs s σ sl v H q (r.sub (.cons_cons _ (List.sublist_append_right _ _)))
@[reducible] def pSeq (a b : PTS) : PTS := fun P s => a { P with nx := b P } s
theorem Lk.nxt {F : List Pc} {D : Ends} {P : PEnds} (h : Lk c F D P) {f : L2.St → Hp → Prop} {g : PSt → Prop} (k : ∀ s σ H, g s → Rel c s σ F H → f σ H) : Lk c F { D with nx := f } { P with nx := g } := ⟨k, h.rt, h.bk, h.ct, h.rs⟩
theorem cs_seq (ha : CS c ts ps) (hb : CS c us pu) : CS c (tSeq ts us) (pSeq ps pu) := fun F s σ H D P h hp k =>
  ha F s σ H _ _ h hp (k.nxt fun s1 σ1 H1 q h1 => hb F s1 σ1 H1 D P h1 q k)
@[reducible] def pNext : PTS := fun P s => P.nx s
theorem cs_next : CS c tNext pNext := fun F s σ H D P h hp k => k.nx _ _ _ hp h
@[reducible] def pSet (i : Nat) (tp : PTE) : PTS := fun P s => tp s fun b d s' => P.nx (s'.set i (mkS b d))
theorem cs_set {i : Nat} (h : CE c t tp) : CS c (tAsg t (gName i)) (pSet i tp) := fun F s σ H D P hr hp k =>
  h F s σ H _ _ hr hp fun b d s' v H' q hr' => k.nx _ _ _ q (hr'.set i)
@[reducible] def pAsg (tp : PTE) (gp : PTG) : PTS := fun P s => tp s fun _ d s' => gp d s' P.nx
theorem cs_asg {g : TG} {gp : PTG} {vs : List Nat} (h : CE c t tp) (hg : CG c vs g gp) : CS c (tAsg t g) (pAsg tp gp) := fun F s σ H D P hr hp k =>
  h F s σ H _ _ hr hp fun b d s' v H' q hr' => hg F s' σ H' d v _ _ hr'.mkfz q fun s2 σ2 q2 h2 _ => k.nx _ _ _ q2 h2
@[reducible] def pPar (i j : Nat) (pa pb : PTE) : PTS := fun P s => pa s fun b1 d1 s1 => pb s1 fun b2 d2 s2 => P.nx ((s2.set i (mkS b1 d1)).set j (mkS b2 d2))
theorem cs_par {i j : Nat} (ha : CE c ta pa) (hb : CE c tb pb) : CS c (tPar i j (tCons ta (tCons tb tNil))) (pPar i j pa pb) := fun F s σ H D P hr hp k =>
  ha F s σ H _ _ hr hp fun b1 d1 s1 v1 H1 q1 h1 => hb _ s1 σ H1 _ _ h1 q1 fun b2 d2 s2 v2 H2 q2 h2 => ⟨v1, v2, rfl, k.nx _ _ _ q2 (Rel.set (Rel.set (h2.perm (List.Perm.swap ..)) i) j)⟩
@[reducible] def pIfS (tt : PTT) (a b : PTS) : PTS := fun P s => tt s fun k s1 => if k = true then a P s1 else b P s1
theorem cs_if {tt : TT} {pt : PTT} (ht : CT c tt pt) (ha : CS c ts ps) (hb : CS c us pu) : CS c (tIfS tt ts us) (pIfS pt ps pu) := fun F s σ H D P h hp k =>
  ht F s σ H _ _ h hp fun b s1 H1 q h1 => by
    cases b with
    | true => exact ha F s1 σ H1 D P h1 (by simpa using q) k
    | false => exact hb F s1 σ H1 D P h1 (by simpa using q) k
theorem cs_cut0 (h : CS c ts ps) : CS c (tCutS ts) ps := fun F s σ H D P hr hp k => ⟨D.nx, h F s σ H D _ hr hp k, fun _ _ q => q⟩
@[reducible] def pRet (tp : PTE) : PTS := fun P s => tp s fun b d _ => P.rt b d
theorem cs_ret (h : CE c t tp) : CS c (tRet t) (pRet tp) := fun F s σ H D P hr hp k => h F s σ H _ _ hr hp fun b d s' v H' q hr' =>
  k.rt _ _ _ _ q (hr'.top.sub (by exact List.cons_sublist_cons.mpr (List.nil_sublist _)))
@[reducible] def pDrop (tp : PTE) : PTS := fun P s => tp s fun _ _ s' => P.nx s'
theorem cs_drop (h : CE c t tp) : CS c (tDrop t) (pDrop tp) := fun F s σ H D P hr hp k => h F s σ H _ _ hr hp fun b d s' v H' q hr' => k.nx _ _ _ q hr'.drop
theorem wipe_set (σ : L2.St) (k : Nat) (v : Option V) : ∀ vs : List Nat, k ∈ vs → wipe (σ.set k v) vs = wipe σ vs
  | [], h => absurd h (by simp)
  | w :: vs, h => by
    unfold wipe
    by_cases e : w = k
    · subst e
      have : ∀ vs : List Nat, (wipe (σ.set w v) vs).set w none = (wipe σ vs).set w none := by
        intro vs
        induction vs with
        | nil => show (σ.set w v).set w none = σ.set w none; rw [List.set_set]
        | cons u vs ih =>
          unfold wipe
          by_cases e : u = w
          · subst e; rw [List.set_set, List.set_set, ih]
          · rw [List.set_comm _ _ e, List.set_comm _ _ e, ih]
      exact this vs
    · rcases List.mem_cons.mp h with z | z
      · exact absurd z.symm e
      · rw [wipe_set σ k v vs z]
@[reducible] def pName (k : Nat) : PTG := fun d s Q => Q (s.set k (.fz d))
theorem cg_name {k : Nat} {vs : List Nat} (hk : k ∈ vs) : CG c vs (gName k) (pName k) := fun F s σ H d v Q R h hp kk => kk _ _ hp (h.set k) (wipe_set _ _ _ _ hk)
abbrev PTGs := List Dt → PSt → (PSt → Prop) → Prop
def CGs (c : Ctx) (vs : List Nat) (g : TGs) (gp : PTGs) : Prop := ∀ (F : List Pc) (s : PSt) (σ : L2.St) (H : Hp) (ds : List Dt) (ws : List V) (Q : L2.St → Hp → Prop) (R : PSt → Prop), ds.length = ws.length → Rel c s σ (fzs ds ws ++ F) H → gp ds s R → (∀ s' σ', R s' → Rel c s' σ' F H → wipe σ' vs = wipe σ vs → Q σ' H) → g ws σ H Q
@[reducible] def pGNil : PTGs := fun ds s Q => match ds with
  | [] => Q s
  | _ => False
@[reducible] def pGCons (g : PTG) (gs : PTGs) : PTGs := fun ds s Q => match ds with
  | d :: ds => g d s fun s' => gs ds s' Q
  | [] => False
theorem cgs_nil {vs : List Nat} : CGs c vs gNil pGNil := fun F s σ H ds ws Q R e h hp k => by
  cases ds with
  | nil =>
    obtain rfl : ws = [] := List.eq_nil_of_length_eq_zero e.symm
    exact ⟨rfl, k _ _ hp h rfl⟩
  | cons _ _ => exact hp.elim
theorem cgs_cons {vs : List Nat} {g : TG} {gs : TGs} {gp : PTG} {gps : PTGs} (h1 : CG c vs g gp) (h2 : CGs c vs gs gps) : CGs c vs (gCons g gs) (pGCons gp gps) := fun F s σ H ds ws Q R e h hp k => by
  cases ds with
  | nil => exact hp.elim
  | cons d ds =>
    cases ws with
    | nil => cases e
    | cons w ws =>
      refine ⟨w, ws, rfl, h1 (fzs ds ws ++ F) s σ H d w _ _ h hp fun s' σ' q h' ew => ?_⟩
      exact h2 F s' σ' H ds ws Q R (by simpa using e) h' q fun s2 σ2 q2 h3 ew2 => k _ _ q2 h3 (ew2.trans ew)
theorem Rel.fgt {ds : List Dt} {s : PSt} {σ : L2.St} {F : List Pc} {H : Hp} {v : V} (h : Rel c s σ ((.fz (.tpk ds), some v) :: F) H) : Rel c s σ ((.fz (.tup ds), some v) :: F) H := by
  obtain ⟨p, xs, o, e1, ha, g1, _, g2⟩ := h.top.ok (.fz (.tpk ds), some v) (List.mem_cons_self ..)
  refine .of_top h.1 (RelL.fr h.drop.2 ⟨p, xs, e1, ?_, .inr ⟨o, g1⟩, ?_⟩)
  · exact ha
  · exact g2.mono fun a o ha ho => ⟨ha, ho⟩
@[reducible] def pGTup (n : Nat) (g : PTGs) : PTG := fun d s Q => match d with
  | .tup ds => ds.length = n ∧ g ds s Q
  | .tpk ds => ds.length = n ∧ g ds s Q
  | _ => False
theorem cg_tup0 {vs : List Nat} {n : Nat} {g : TGs} {gp : PTGs} (h : CGs c vs g gp) {F : List Pc} {s : PSt} {σ : L2.St} {H : Hp} {ds : List Dt} {v : V} {Q : L2.St → Hp → Prop} {R : PSt → Prop} (hr : Rel c s σ ((.fz (.tup ds), some v) :: F) H) (hn : ds.length = n) (hp : gp ds s R)
    (k : ∀ s' σ', R s' → Rel c s' σ' F H → L2.wipe σ' vs = L2.wipe σ vs → Q σ' H) : gTup K n g v σ H Q := by
    obtain ⟨a, xs, rfl, ha, h1, h2⟩ := hr.top.ok _ (List.mem_cons_self ..)
    refine ⟨a, xs, rfl, .inl h1, by rw [h2.length]; exact hn, h F s σ H ds xs Q R h2.length.symm ?_ hp k⟩
    have key : ∀ (ds : List Dt) (xs : List V), FrAll (Al c (s.zip σ ++ F)) H ds xs → Rel c s σ F H → Rel c s σ (fzs ds xs ++ F) H := by
      intro ds
      induction ds with
      | nil => intro xs r h; cases r; exact h
      | cons d ds ih =>
        intro xs r h
        obtain ⟨v, ws, rfl, r1, r2⟩ := r
        have h3 := ih ws r2 h
        refine .of_top h3.1 (h3.2.fr ?_)
        have eo : owns (s.zip σ ++ (fzs ds ws ++ F)) = owns (s.zip σ ++ F) := by
          rw [owns_app (s.zip σ), owns_app (s.zip σ), owns_fzs]
        have : Al c (s.zip σ ++ (fzs ds ws ++ F)) = Al c (s.zip σ ++ F) := by funext a; unfold Al; rw [eo]
        rw [this]; exact r1
    refine key ds xs ?_ hr.drop
    refine h2.mono fun a o ha ho => ⟨ha, ho⟩
theorem cg_tup {vs : List Nat} {n : Nat} {g : TGs} {gp : PTGs} (h : CGs c vs g gp) : CG c vs (gTup K n g) (pGTup n gp) := fun F s σ H d v Q R hr hp k => by
  unfold pGTup at hp
  split at hp
  · exact cg_tup0 h hr hp.1 hp.2 k
  · exact cg_tup0 h hr.fgt hp.1 hp.2 k
  · exact hp.elim
structure ItZ (c : Ctx) (J : It) (items : List Dt) (F' : List Pc) : Prop where
  ex : ∃ (n : Nat) (G : Hp → Prop) (Y : Nat → Hp → V → Hp → Prop), Walk J n G Y ∧ n = items.length ∧ (∀ s σ F H, Rel c s σ (F' ++ F) H → G H) ∧
    ∀ i H v H2 s σ F d, items[i]? = some d → Rel c s σ (F' ++ F) H → Y i H v H2 → Rel c s σ ((.fz d, some v) :: (F' ++ F)) H2
def CI (c : Ctx) (wi : TI) (ip : PTI) : Prop := ∀ (F : List Pc) (s : PSt) (σ : L2.St) (H : Hp) (Q : It → Hp → Prop) (R : List Dt → PSt → Prop), Rel c s σ F H → ip s R → (∀ items s' J H' F', R items s' → Rel c s' σ (F' ++ F) H' → ItZ c J items F' → Q J H') → wi σ H Q
theorem itZ_text (l : List Nat) (F' : List Pc) : ItZ c (Itx l) (l.map fun ch => .str [ch]) F' :=
  ⟨_, _, _, walk_tx, by simp, fun _ _ _ _ _ => trivial, fun i H v H2 s σ F d hd h ⟨e, ch, hc, ev⟩ => by
    subst e ev
    rw [List.getElem?_map, hc] at hd
    cases hd
    exact .of_top h.1 (h.2.str _)⟩
theorem itZ_list {a : Addr} {ds : List Dt} : ItZ c (Itl K a) ds [(.fz (.lst ds), some (.ref a))] := by
  refine ⟨ds.length, fun H => ∃ xs, SqL K H a xs ∧ xs.length = ds.length, fun i H v H' => H' = H ∧ ∀ xs, SqL K H a xs → xs[i]? = some v, ?_, rfl, ?_, ?_⟩
  · exact ⟨fun i _ hi ⟨xs, q, e⟩ => ⟨xs, xs[i]'(by omega), q, by simp [e ▸ hi]⟩, fun _ ⟨xs, q, e⟩ => ⟨xs, q, by omega⟩, fun _ _ _ _ _ _ y => y⟩
  · intro s σ F H h
    obtain ⟨a', xs, e, _, h1, h2⟩ := h.2.ok (.fz (.lst ds), some (.ref a)) (List.mem_append_right _ (List.mem_cons_self ..))
    cases e
    exact ⟨xs, SqL.of h1, h2.length⟩
  · intro i H v H2 s σ F d hd h ⟨e, y⟩
    subst e
    obtain ⟨a', xs, e, _, h1, h2⟩ := h.2.ok (.fz (.lst ds), some (.ref a)) (List.mem_append_right _ (List.mem_cons_self ..))
    cases e
    obtain ⟨w, hw, r⟩ := h2.get hd
    have := y xs (SqL.of h1)
    rw [hw] at this
    cases this
    exact .of_top h.1 (h.2.fr r)
theorem itZ_tup {a : Addr} {ds : List Dt} : ItZ c (Itt K a) ds [(.fz (.tup ds), some (.ref a))] := by
  refine ⟨ds.length, fun H => ∃ xs, SqT K H a xs ∧ xs.length = ds.length, fun i H v H' => H' = H ∧ ∀ xs, SqT K H a xs → xs[i]? = some v, ?_, rfl, ?_, ?_⟩
  · exact ⟨fun i _ hi ⟨xs, q, e⟩ => ⟨xs, xs[i]'(by omega), q, by simp [e ▸ hi]⟩, fun _ ⟨xs, q, e⟩ => ⟨xs, q, by omega⟩, fun _ _ _ _ _ _ y => y⟩
  · intro s σ F H h
    obtain ⟨a', xs, e, _, h1, h2⟩ := h.2.ok (.fz (.tup ds), some (.ref a)) (List.mem_append_right _ (List.mem_cons_self ..))
    cases e
    exact ⟨xs, .inl h1, h2.length⟩
  · intro i H v H2 s σ F d hd h ⟨e, y⟩
    subst e
    obtain ⟨a', xs, e, _, h1, h2⟩ := h.2.ok (.fz (.tup ds), some (.ref a)) (List.mem_append_right _ (List.mem_cons_self ..))
    cases e
    obtain ⟨w, hw, r⟩ := h2.get hd
    have := y xs (.inl h1)
    rw [hw] at this
    cases this
    exact .of_top h.1 (h.2.fr r)
@[reducible] def pAny (tp : PTE) : PTI := fun s R => tp s fun _ d s' => match d with
  | .str l => R (l.map fun ch => .str [ch]) s'
  | .lst ds => R ds s'
  | .tup ds => R ds s'
  | .tpk ds => R ds s'
  | _ => False
theorem ci_any (h : CE c t tp) : CI c (iAny K t) (pAny tp) := fun F s σ H Q R hr hp k => h F s σ H _ _ hr hp fun b d s' v H' q hr' => by
  split at q
  · rename_i l
    exact .inl ⟨l, str_of hr', k _ _ _ _ [] q hr'.drop (itZ_text _ _)⟩
  · obtain ⟨a, xs, rfl, _, h1, h2⟩ := hr'.mkfz.top.ok _ (List.mem_cons_self ..)
    exact .inr (.inr ⟨a, xs, rfl, SqL.of h1, k _ _ _ _ [_] q hr'.mkfz itZ_list⟩)
  · obtain ⟨a, xs, rfl, _, h1, h2⟩ := hr'.mkfz.top.ok _ (List.mem_cons_self ..)
    exact .inr (.inl ⟨a, xs, rfl, .inl h1, k _ _ _ _ [_] q hr'.mkfz itZ_tup⟩)
  · have hr2 := hr'.mkfz.fgt
    obtain ⟨a, xs, rfl, _, h1, h2⟩ := hr2.top.ok _ (List.mem_cons_self ..)
    exact .inr (.inl ⟨a, xs, rfl, .inl h1, k _ _ _ _ [_] q hr2 itZ_tup⟩)
  · exact q.elim
theorem itZ_range {lo : Int} {n : Nat} (F' : List Pc) : ItZ c (Itr lo n) ((List.range n).map fun i : Nat => .int (lo + (i : Int))) F' :=
  ⟨_, _, _, walk_range, by simp, fun _ _ _ _ _ => trivial, fun i H v H2 s σ F d hd h ⟨e, ev⟩ => by
    subst e ev
    rw [List.getElem?_map] at hd
    cases hq : (List.range n)[i]? with
    | none => rw [hq] at hd; cases hd
    | some j =>
      rw [hq] at hd
      cases hd
      have : j = i := by
        rw [List.getElem?_range] at hq
        · cases hq; rfl
        · have := (List.getElem?_eq_some_iff.mp hq).1
          simpa using this
      subst this
      exact .of_top h.1 (h.2.int _)⟩
@[reducible] def pRng1 (tp : PTE) : PTI := fun s R => tp s fun _ d s' => match d with
  | .int j => (-(2 ^ 62) ≤ j ∧ j < 2 ^ 62) ∧ R ((List.range j.toNat).map fun i : Nat => .int (i : Int)) s'
  | _ => False
theorem ci_rng1 (h : CE c t tp) : CI c (iRng1 (tCons t tNil)) (pRng1 tp) := fun F s σ H Q R hr hp k => h F s σ H _ _ hr hp fun b d s' v H' q hr' => by
  split at q
  · rename_i j
    obtain rfl := int_of hr'
    refine ⟨j, rfl, q.1.1, q.1.2, k _ _ _ _ [] q.2 hr'.drop ?_⟩
    have := itZ_range (c := c) (lo := 0) (n := j.toNat) []
    simpa using this
  · exact q.elim
@[reducible] def pRng2 (pa pb : PTE) : PTI := fun s R => pa s fun _ d s1 => pb s1 fun _ e s2 => match d, e with
  | .int i, .int j => (-(2 ^ 62) ≤ i ∧ i < 2 ^ 62 ∧ -(2 ^ 62) ≤ j ∧ j < 2 ^ 62) ∧ R ((List.range (j - i).toNat).map fun k : Nat => .int (i + (k : Int))) s2
  | _, _ => False
theorem ci_rng2 (ha : CE c ta pa) (hb : CE c tb pb) : CI c (iRng2 (tCons ta (tCons tb tNil))) (pRng2 pa pb) := fun F s σ H Q R hr hp k => ha F s σ H _ _ hr hp fun b1 d1 s1 v1 H1 q1 h1 => hb _ s1 σ H1 _ _ h1 q1 fun b2 d2 s2 v2 H2 q2 h2 => by
  split at q2
  · rename_i i j
    obtain rfl := int_of h2
    obtain rfl := int_of h2.drop
    exact ⟨i, j, rfl, q2.1, k _ _ _ _ [] q2.2 h2.drop.drop (itZ_range _)⟩
  · exact q2.elim
/-- pairs laid anew -/
theorem itZ_new {J : It} {n : Nat} {G : Hp → Prop} {W : Nat → List V → Prop} {items : List Dt} {F' : List Pc} (w : Walk J n G (YNew W)) (hn : n = items.length) (hG : ∀ s σ F H, Rel c s σ (F' ++ F) H → G H)
    (hW : ∀ i vs s σ F H d, items[i]? = some d → Rel c s σ (F' ++ F) H → W i vs → ∃ ds, d = .tup ds ∧ FrAll (Al c (s.zip σ ++ (F' ++ F))) H ds vs) : ItZ c J items F' :=
  ⟨n, G, _, w, hn, hG, fun i H v H2 s σ F d hd h ⟨T, vs, ev, hT, e, h2, r⟩ => by
    obtain ⟨ds, rfl, f⟩ := hW i vs s σ F H d hd h r
    subst ev
    exact .of_top h.1 (h.2.newT f hT e h2)⟩
def enumD (ds : List Dt) : List Dt := (List.range ds.length).map fun i : Nat => .tup [.int (i : Int), ds.getD i .non]
theorem enumD_get {ds : List Dt} {i : Nat} {d : Dt} (h : (enumD ds)[i]? = some d) : ∃ e, ds[i]? = some e ∧ d = .tup [.int (i : Int), e] := by
  unfold enumD at h
  rw [List.getElem?_map] at h
  by_cases hi : i < ds.length
  · rw [List.getElem?_range hi] at h
    cases h
    exact ⟨ds[i], by simp [hi], by simp [List.getD_eq_getElem?_getD, hi]⟩
  · rw [List.getElem?_eq_none (by simp; omega)] at h; cases h
def signsD (l : List Nat) : List Dt := l.map fun ch => .str [ch]
theorem signsD_get {l : List Nat} {i : Nat} {d : Dt} (h : (signsD l)[i]? = some d) : ∃ ch, l[i]? = some ch ∧ d = .str [ch] := by
  unfold signsD at h
  rw [List.getElem?_map] at h
  cases hl : l[i]? with
  | none => rw [hl] at h; cases h
  | some ch => rw [hl] at h; cases h; exact ⟨ch, rfl, rfl⟩
theorem itZ_enumX (l : List Nat) (F' : List Pc) : ItZ c (Itex l) (enumD (signsD l)) F' :=
  itZ_new walk_w (by simp [enumD, signsD]) (fun _ _ _ _ _ => trivial) fun i vs s σ F H d hd h ⟨ch, hc, e⟩ => by
    obtain ⟨e1, h1, rfl⟩ := enumD_get hd
    obtain ⟨ch', h2, rfl⟩ := signsD_get h1
    rw [hc] at h2; cases h2
    subst e
    exact ⟨_, rfl, .cons rfl (.cons rfl .nil)⟩
@[reducible] def pEnumX (tp : PTE) : PTI := fun s R => tp s fun _ d s' => match d with
  | .str l => R (enumD (signsD l)) s'
  | _ => False
theorem ci_enumX (h : CE c t tp) : CI c (iEnumX (tCons t tNil)) (pEnumX tp) := fun F s σ H Q R hr hp k => h F s σ H _ _ hr hp fun b d s' v H' q hr' => by
  split at q
  · rename_i l
    obtain rfl := str_of hr'
    exact ⟨l, rfl, k _ _ _ _ [] q hr'.drop (itZ_enumX _ _)⟩
  · exact q.elim
def zipD (ds es : List Dt) : List Dt := List.zipWith (fun d e => .tup [d, e]) ds es
theorem zipD_get {ds es : List Dt} {i : Nat} {d : Dt} (h : (zipD ds es)[i]? = some d) : ∃ a b, ds[i]? = some a ∧ es[i]? = some b ∧ d = .tup [a, b] := by
  unfold zipD at h
  rw [List.getElem?_zipWith] at h
  split at h
  · rename_i a b h1 h2
    cases h
    exact ⟨a, b, h1, h2, rfl⟩
  · cases h
theorem itZ_zipX (l m : List Nat) (F' : List Pc) : ItZ c (Itzx l m) (zipD (signsD l) (signsD m)) F' :=
  itZ_new walk_w (by simp [zipD, signsD]) (fun _ _ _ _ _ => trivial) fun i vs s σ F H d hd h ⟨c1, c2, h1, h2, e⟩ => by
    obtain ⟨a, b, ha, hb, rfl⟩ := zipD_get hd
    obtain ⟨d1, hd1, rfl⟩ := signsD_get ha
    obtain ⟨d2, hd2, rfl⟩ := signsD_get hb
    rw [h1] at hd1; cases hd1
    rw [h2] at hd2; cases hd2
    subst e
    exact ⟨_, rfl, .cons rfl (.cons rfl .nil)⟩
@[reducible] def pZipX (pa pb : PTE) : PTI := fun s R => pa s fun _ d s1 => pb s1 fun _ e s2 => match d, e with
  | .str l, .str m => R (zipD (signsD l) (signsD m)) s2
  | _, _ => False
theorem ci_zipX (ha : CE c ta pa) (hb : CE c tb pb) : CI c (iZipX (tCons ta (tCons tb tNil))) (pZipX pa pb) := fun F s σ H Q R hr hp k => ha F s σ H _ _ hr hp fun b1 d1 s1 v1 H1 q1 h1 => hb _ s1 σ H1 _ _ h1 q1 fun b2 d2 s2 v2 H2 q2 h2 => by
  split at q2
  · obtain rfl := str_of h2
    obtain rfl := str_of h2.drop
    exact ⟨_, _, rfl, k _ _ _ _ [] q2 h2.drop.drop (itZ_zipX _ _ _)⟩
  · exact q2.elim
def pFor (ip : PTI) (gp : PTG) (tb : PTS) : PTS := fun P s => ip s fun items s1 => ∃ I : Nat → PSt → Prop, I 0 s1 ∧
  (∀ i d s2, items[i]? = some d → I i s2 → gp d s2 fun s3 => tb { P with nx := I (i + 1), ct := I (i + 1), bk := P.nx } s3) ∧ ∀ s2, I items.length s2 → P.nx s2
theorem cs_for {wi : TI} {ip : PTI} {g : TG} {gp : PTG} {vs : List Nat} (hi : CI c wi ip) (hg : CG c vs g gp) (hb : CS c ts ps) : CS c (tFor wi g ts) (pFor ip gp ps) := fun F s σ H D P h hp k =>
  hi F s σ H _ _ h hp fun items s1 J H1 F' ⟨I, i0, is, ie⟩ h1 z => by
    obtain ⟨n, G, Y, w, hn, hG, hY⟩ := z.ex
    refine for_it w (fun i σ H => ∃ s, Rel c s σ (F' ++ F) H ∧ I i s) ⟨s1, h1, i0⟩ (fun i σ H _ ⟨s, hs, _⟩ => hG _ _ _ _ hs) ?_ ?_
    · rintro i x σ2 H2 H3 hi ⟨s2, h2, i2⟩ y
      obtain ⟨d, hd⟩ : ∃ d, items[i]? = some d := ⟨items[i]'(by omega), by simp⟩
      have h3 := hY i H2 x H3 s2 σ2 F d hd h2 y
      refine hg _ s2 σ2 H3 d x _ _ h3 (is i d s2 hd i2) fun s4 σ4 q4 h4 _ => ?_
      refine hb _ s4 σ4 H3 _ _ h4 q4 ⟨fun s5 σ5 H5 q5 h5 => ⟨s5, h5, q5⟩, fun b d v H q h => k.rt _ _ _ _ q h, fun s5 σ5 H5 q5 h5 => k.nx _ _ _ q5 (h5.sub (List.sublist_append_right _ _)), fun s5 σ5 H5 q5 h5 => ⟨s5, h5, q5⟩, k.rs' F'⟩
    · rintro σ2 H2 ⟨s2, h2, i2⟩
      exact k.nx _ _ _ (ie s2 (hn ▸ i2)) (h2.sub (List.sublist_append_right _ _))
def frzS (s : PSt) : List Nat → PSt
  | [] => s
  | k :: ks => frzS (match s[k]? with
    | some (.ow d) => s.set k (.fz d)
    | _ => s) ks
theorem Rel.frzS {σ : L2.St} {F : List Pc} {H : Hp} : ∀ {ks : List Nat} {s : PSt}, Rel c s σ F H → Rel c (frzS s ks) σ F H
  | [], _, h => h
  | k :: ks, s, h => by
    unfold Lt.frzS
    refine Rel.frzS (ks := ks) ?_
    split
    · exact h.frz (by assumption)
    · exact h
def pLc (ks : List Nat) (ip : PTI) (gp : PTG) (tt : PTT) (te : PTE) (vs : List Nat) : PTE := fun s Q => ip (frzS s ks) fun items s1 => items.length ≤ 16000000 ∧ ∃ G : Nat → List Dt → Prop, G 0 [] ∧
  (∀ i d acc, items[i]? = some d → G i acc → gp d (wipeS s1 vs) fun s2 => tt s2 fun b s3 => if b = true then te s3 fun _ e s4 => wipeS s4 vs = wipeS s1 vs ∧ G (i + 1) (acc ++ [e]) else wipeS s3 vs = wipeS s1 vs ∧ G (i + 1) acc) ∧
  ∀ acc, G items.length acc → acc.length ≤ items.length → Q true (.lst acc) (wipeS s1 vs)
theorem ce_lc {wi : TI} {ip : PTI} {g : TG} {gp : PTG} {tt : TT} {pt : PTT} {vs ks : List Nat} (hi : CI c wi ip) (hg : CG c vs g gp) (ht : CT c tt pt) (he : CE c t tp) : CE c (tLc wi g tt t vs) (pLc ks ip gp pt tp vs) := fun F s σ H Q R h hp k =>
  hi F (frzS s ks) σ H _ _ h.frzS hp fun items s1 J H1 F' ⟨hz, G, g0, gs, ge⟩ h1 z => by
    obtain ⟨n, Gh, Y, w, hn, hG, hY⟩ := z.ex
    intro D hD
    have h1w : ∀ {s2 : PSt} {σ2 : L2.St} {F2 : List Pc} {H2 : Hp}, Rel c s2 σ2 F2 H2 → wipe σ2 vs = wipe σ vs → wipeS s2 vs = wipeS s1 vs → Rel c (wipeS s1 vs) σ F2 H2 := fun h e es => by
      have := Rel.unwipe (s := s1) h e es
      exact this
    have hb : Rel c (wipeS s1 vs) σ (F' ++ F) H1 := h1w h1 rfl rfl
    refine lc_it w (fun i H' => ∃ acc : List Dt, G i acc ∧ acc.length ≤ i ∧ Rel c (wipeS s1 vs) σ ((.ow (.lst acc), some (.ref D)) :: (F' ++ F)) H') ?_ ?_ ?_ ?_
    · exact ⟨[], g0, Nat.le_refl _, .of_top hb.1 (hb.2.newL (ds := []) (xs := []) rfl hD (Ex.new hD) upd_same)⟩
    · rintro i H' _ ⟨acc, _, _, h'⟩
      exact hG _ _ _ _ h'.drop
    · rintro i x H2 H3 hi ⟨acc, ga, hl, h2⟩ y
      obtain ⟨d, hd⟩ : ∃ d, items[i]? = some d := ⟨items[i]'(by omega), by simp⟩
      have h2' : Rel c (wipeS s1 vs) σ (F' ++ ((.ow (.lst acc), some (.ref D)) :: F)) H2 := h2.perm List.perm_middle.symm
      have h3 := hY i H2 x H3 _ _ _ d hd h2' y
      have h3w := Rel.wipe h3 vs
      have eww : ∀ (s : PSt) (vs : List Nat), wipeS (wipeS s vs) vs = wipeS s vs := by
        intro s vs
        refine List.ext_getElem? fun j => ?_
        have key : ∀ (s : PSt) (vs : List Nat), j ∉ vs → (wipeS s vs)[j]? = s[j]? := by
          intro s vs
          induction vs with
          | nil => intro _; rfl
          | cons v vs ih =>
            intro hj
            unfold wipeS
            rw [List.getElem?_set_ne (fun e => hj (by rw [e]; exact List.mem_cons_self ..))]
            exact ih fun z => hj (List.mem_cons_of_mem _ z)
        by_cases hj : j ∈ vs
        · by_cases hs : j < s.length
          · rw [wipe_un _ vs j hj (by rw [wipeS_length]; exact hs), wipe_un _ vs j hj hs]
          · rw [List.getElem?_eq_none (by rw [wipeS_length, wipeS_length]; omega), List.getElem?_eq_none (by rw [wipeS_length]; omega)]
        · rw [key _ _ hj]
      have eww' : ∀ (s : L2.St) (vs : List Nat), wipe (wipe s vs) vs = wipe s vs := by
        intro s vs
        refine List.ext_getElem? fun j => ?_
        have key2 : ∀ (s : L2.St) (vs : List Nat), j ∈ vs → j < s.length → (wipe s vs)[j]? = some none := by
          intro s vs
          induction vs with
          | nil => intro h; simp at h
          | cons v vs ih =>
            intro hj hs
            unfold wipe
            by_cases e : v = j
            · subst e
              rw [List.getElem?_set_self (by rw [wipe_length]; exact hs)]
            · rw [List.getElem?_set_ne e]
              rcases List.mem_cons.mp hj with z | z
              · exact absurd z.symm e
              · exact ih z hs
        by_cases hj : j ∈ vs
        · by_cases hs : j < s.length
          · rw [key2 _ vs hj (by rw [wipe_length]; exact hs), key2 _ vs hj hs]
          · rw [List.getElem?_eq_none (by rw [wipe_length, wipe_length]; omega), List.getElem?_eq_none (by rw [wipe_length]; omega)]
        · rw [wipe_out _ hj]
      rw [eww] at h3w
      refine hg _ (wipeS s1 vs) (wipe σ vs) H3 d x _ _ h3w (gs i d acc hd ga) fun s4 σ4 q4 h4 ew => ?_
      rw [eww'] at ew
      refine ⟨ew, ht _ s4 σ4 H3 _ _ h4 q4 fun b s5 H5 q5 h5 => ?_⟩
      cases b with
      | true =>
        simp only [if_true] at q5 ⊢
        refine he _ s5 σ4 H5 _ _ h5 q5 fun b e s6 v6 H6 ⟨ews, ge6⟩ h6 => ?_
        have h7 := h1w h6.mkfz ew ews
        have h8 : Rel c (wipeS s1 vs) σ ((.ow (.lst acc), some (.ref D)) :: (.fz e, some v6) :: (F' ++ F)) H6 := h7.perm ((List.perm_middle (l₁ := _ :: F')).trans (.refl _))
        obtain ⟨p, ep, _, xs, hx1, hx2⟩ := h8.top.own_at
        cases ep
        refine ⟨xs, hx1, by rw [hx2.length, sizeLine_eq]; omega, acc ++ [e], ge6, by simp; omega, ?_⟩
        have hm := h8.top.mut (H' := upd H6 D (.lst (xs ++ [v6]))) (d' := .lst (acc ++ [e])) ExB.upd ?_
        · exact (Rel.of_top h8.1 hm).sub (.cons_cons _ (List.sublist_cons_self _ _))
        · refine ⟨_, upd_same, ?_⟩
          have hne : ∀ a o, Al c ((.ow (.lst acc), some (.ref D)) :: ((wipeS s1 vs).zip σ ++ ((.fz e, some v6) :: (F' ++ F)))) a → H6 a = some o → Al c ((.ow (.lst acc), some (.ref D)) :: ((wipeS s1 vs).zip σ ++ ((.fz e, some v6) :: (F' ++ F)))) a ∧ upd H6 D (.lst (xs ++ [v6])) a = some o := fun a o ha ho => ⟨ha, by
            rw [upd_ne (fun z => ha.2 (by rw [z]; exact List.mem_cons_self ..))]; exact ho⟩
          refine (hx2.append (.cons ?_ .nil)).mono hne
          exact h8.top.ok _ (List.mem_cons_of_mem _ (List.mem_append_right _ (List.mem_cons_self ..)))
      | false =>
        simp only [Bool.false_eq_true, if_false] at q5 ⊢
        have h7 := h1w h5 ew q5.1
        exact ⟨acc, q5.2, by omega, h7.perm List.perm_middle⟩
    · rintro H2 ⟨acc, ga, hl, h2⟩
      exact k _ _ _ _ _ (ge acc (hn ▸ ga) (by omega)) (h2.sub (.cons_cons _ (List.sublist_append_right _ _)))
/-- the owned list at a slot is changed -/
theorem Rel.change {s : PSt} {σ : L2.St} {F : List Pc} {H H' : Hp} {k : Nat} {d d' : Dt} {p : Addr} (h : Rel c s σ F H) (hs : s[k]? = some (.ow d)) (hσ : σ[k]? = some (some (.ref p))) (e : ExB p H H') (r : At (Al c (s.zip σ ++ F)) H' d' p) : Rel c (s.set k (.ow d')) σ F H' := by
  obtain ⟨b, hb, hz⟩ := zip_get h.1 hs
  rw [hσ] at hb
  cases hb
  have ho := h.out hz
  refine .back h.1 hσ (ho.mut e (r.mono (fun a o ha ho' => ⟨?_, ho'⟩) fun _ q => q))
  have ep : (owns (s.zip σ ++ F)).Perm (owns ((.ow d, some (.ref p)) :: ((s.zip σ).take k ++ (s.zip σ).drop (k + 1) ++ F))) := by
    refine List.Perm.flatMap_right _ ?_
    conv => lhs; rw [split_at hz]
    rw [List.append_assoc]
    refine List.perm_middle.trans (.cons _ ?_)
    simp
  exact ⟨ha.1, fun z => ha.2 (ep.mem_iff.mpr z)⟩
theorem Rel.own {s : PSt} {σ : L2.St} {F : List Pc} {H : Hp} {k : Nat} {d : Dt} (h : Rel c s σ F H) (hs : s[k]? = some (.ow d)) : ∃ p, σ[k]? = some (some (.ref p)) ∧ At (Al c (s.zip σ ++ F)) H d p ∧ p ∈ owns (s.zip σ ++ F) := by
  obtain ⟨b, hb, hm⟩ := mem_zip h.1 hs
  have hm' : (Sl.ow d, b) ∈ s.zip σ ++ F := List.mem_append_left _ hm
  have := h.2.ok _ hm'
  cases b with
  | none => exact this.elim
  | some v =>
    cases v <;> try exact this.elim
    exact ⟨_, hb, this.2, mem_owns hm' (List.mem_singleton.mpr rfl)⟩
theorem FrAll.exb {L : List Pc} {H H' : Hp} {p : Addr} {ds : List Dt} {xs : List V} (e : ExB p H H') (hp : p ∈ owns L) (h : FrAll (Al c L) H ds xs) : FrAll (Al c L) H' ds xs := h.mono fun a o ha ho => ⟨ha, e _ _ (fun z => ha.2 (by rw [z]; exact hp)) ho⟩
/-- x.append(e) -/
@[reducible] def pApp (k : Nat) (tp : PTE) : PTE := fun s Q => match s[k]? with
  | some (.ow (.lst _)) => tp s fun _ d s1 => match s1[k]? with
    | some (.ow (.lst ds)) => ds.length < 16777216 ∧ Q false .non (s1.set k (.ow (.lst (ds ++ [d]))))
    | _ => False
  | _ => False
theorem Rel.non {s : PSt} {σ : L2.St} {F : List Pc} {H : Hp} (h : Rel c s σ F H) : Rel c s σ ((mkS false .non, some .non) :: F) H := .of_top h.1 (h.2.scal fun _ _ => rfl)
theorem ce_app {k : Nat} (h : CE c t tp) : CE c (tBM K "list" rAppend (tVar k) (tCons t tNil)) (pApp k tp) := fun F s σ H Q R hr hp kk => by
  unfold pApp at hp
  split at hp
  · rename_i ds0 hs
    obtain ⟨p, hσ, ⟨xs0, hx, _⟩, _⟩ := hr.own hs
    refine ⟨_, hσ, ty_lst hx, h F s σ H _ _ hr hp fun b d s1 v H1 q h1 => ?_⟩
    split at q
    · rename_i ds hs1
      have h2 := h1.mkfz
      obtain ⟨p', hσ', ⟨xs, hx1, hx2⟩, ho⟩ := h2.own hs1
      rw [hσ] at hσ'
      cases hσ'
      have hv := h2.top.ok _ (List.mem_cons_self ..)
      refine ⟨p, xs, v, rfl, rfl, hx1, by rw [hx2.length, sizeLine_eq]; exact q.1, kk _ _ _ _ _ q.2 (Rel.non ?_)⟩
      refine (h2.change (d' := .lst (ds ++ [d])) (H' := upd H1 p (.lst (xs ++ [v]))) hs1 hσ ExB.upd ⟨_, upd_same, FrAll.exb ExB.upd ho (hx2.append (.cons ?_ .nil))⟩).drop
      exact h2.2.ok _ (List.mem_append_right _ (List.mem_cons_self ..))
    · exact q.elim
  · exact hp.elim
theorem FrAll.dropLast {A : Addr → Prop} {H : Hp} {ds : List Dt} {xs : List V} (h : FrAll A H ds xs) : FrAll A H ds.dropLast xs.dropLast := by
  rw [List.dropLast_eq_take, List.dropLast_eq_take, h.length]
  exact h.take _
end
def pStart (ds : List Dt) (n : Nat) : PSt := ds.map .fz ++ List.replicate n .un
theorem start_rel {A Zd : Addr → Prop} {H : Hp} {ds : List Dt} {vs : List V} {n : Nat} (h : FrAll A H ds vs) (hi : Iv (baseCtx A Zd H) H) : Rel (baseCtx A Zd H) (pStart ds n) (vs.map some ++ List.replicate n none) [] H := by
  refine ⟨by simp [pStart, h.length], ?_⟩
  have e0 : owns (List.zip (pStart ds n) (vs.map some ++ List.replicate n none) ++ []) = [] := by
    unfold owns
    rw [List.append_nil, List.flatMap_eq_nil_iff]
    intro x hx
    obtain ⟨s, v⟩ := x
    have := (List.of_mem_zip hx).1
    unfold pStart at this
    rcases List.mem_append.mp this with q | q
    · obtain ⟨d, _, rfl⟩ := List.mem_map.mp q; rfl
    · rw [List.mem_replicate] at q
      rw [q.2]; rfl
  refine ⟨by rw [e0]; exact List.nodup_nil, fun x hx => ?_, .of (Ex.refl _), hi⟩
  have hA : ∀ a, A a → Al (baseCtx A Zd H) (List.zip (pStart ds n) (vs.map some ++ List.replicate n none) ++ []) a := fun a ha => ⟨.inl ha, by rw [e0]; simp⟩
  rw [List.append_nil] at hx
  obtain ⟨i, hi⟩ := List.getElem?_of_mem hx
  obtain ⟨s, v⟩ := x
  rw [List.getElem?_zip_eq_some] at hi
  obtain ⟨h1, h2⟩ := hi
  unfold pStart at h1
  by_cases c : i < ds.length
  · rw [List.getElem?_append_left (by simp; omega), List.getElem?_map] at h1
    rw [List.getElem?_append_left (by simp; rw [h.length]; omega), List.getElem?_map] at h2
    cases hd : ds[i]? with
    | none => rw [hd] at h1; cases h1
    | some d =>
      rw [hd] at h1
      cases h1
      obtain ⟨w, hw, r⟩ := h.get hd
      rw [hw] at h2
      cases h2
      exact r.mono fun a o ha ho => ⟨hA a ha, ho⟩
  · rw [List.getElem?_append_right (by simp; omega)] at h1
    have := List.mem_of_getElem? h1
    rw [List.mem_replicate] at this
    obtain rfl : s = .un := this.2
    trivial
end Lt
namespace Lt
open PySem PySem.Spec PyProof.Rows L2 Evl
open SX (S)
variable [ZI]
open PySem.W (EachIs AllAlike Sortable dataLe)
def encB (b : V × Dt) : PyData := toP b.2
def rSortZ (K : PySem.W.Frag) : List V → Hp → VK → Prop := fun vs H Q => ∃ (a : Addr) (bs : List (V × Dt)), vs = [.ref a] ∧ SqL K H a (bs.map (·.1)) ∧ (∀ b ∈ bs, Dp K H b.1 (encB b)) ∧ AllAlike (bs.map encB) ∧ Sortable (bs.map encB) ∧ (∀ b ∈ bs, (encB b).depth ≤ 60) ∧
  ∀ p, H p = none → Q (.ref p) (upd H p (.lst ((bs.mergeSort (dataLe false encB)).map (·.1))))
theorem each_of_vals {R : V × Dt → Prop} : ∀ {bs : List (V × Dt)} {us : List Value}, Vals (bs.map (·.1)) us → EachIs (fun u (b : V × Dt) => RelV b.1 u) us bs
  | [], _, r => by cases r; exact .nil
  | b :: bs, _, r => by
    cases r with
    | cons h t => exact .cons h (each_of_vals (R := R) t)
theorem vals_of_each : ∀ {bs : List (V × Dt)} {us : List Value}, EachIs (fun u (b : V × Dt) => RelV b.1 u) us bs → Vals (bs.map (·.1)) us
  | _, _, .nil => .nil
  | _, _, .cons h t => .cons h (vals_of_each t)
theorem each_reads {X : Cx} {pins : List (Addr × Obj)} {σ : L2.St} {H : Hp} {s : Shared} (I : L2.Inv X pins σ H s) : ∀ {bs : List (V × Dt)} {us : List Value}, (∀ b ∈ bs, Dp X.K H b.1 (encB b)) → Vals (bs.map (·.1)) us → EachIs (fun u b => ∃ as, Reads s.heap u (encB b) as) us bs
  | [], _, _, r => by cases r; exact .nil
  | b :: bs, _, h, r => by
    cases r with
    | cons h1 t => exact .cons (Dp.reads I _ _ _ (h b (by simp)) h1) (each_reads I (fun b hb => h b (by simp [hb])) t)
theorem cr_sortZ {X : Cx} (hu : X.A.units + 64 < cLine) : CallR X (.builtin "sorted") (rSortZ X.K) := by
  intro pins s σ H vs us Q I r h
  obtain ⟨a, bs, rfl, hs, hd, hal, hk, hdp, q⟩ := h
  obtain ⟨its, rv, hl, hz⟩ := I.list hs
  rw [Vals.ref1 r]
  have hL : bs.length ≤ sizeLine := by simpa using hz
  refine PySem.W.sorted_data (vs := its) (bs := bs) (enc := encB) (R := fun u b => RelV b.1 u) hl.isList (each_of_vals (R := fun _ => True) rv) (each_reads I hd rv) hal hk hL (fun b hb => ?_) fun out ho eo => ?_
  · have := hdp b hb
    omega
  · obtain ⟨ep, he'⟩ := PyProof.Rows.sortedAll_at s.heap its out.toArray
    have hv := vals_of_each eo
    have hlen : ((bs.mergeSort (dataLe false encB)).map (·.1)).length ≤ sizeLine := by
      rw [List.length_map, List.length_mergeSort]; exact hL
    exact ⟨.ref _, upd H (s.heap.objs.size + 1) (.lst ((bs.mergeSort (dataLe false encB)).map (·.1))), I.laid (t' := s.toks) (fun _ _ => PyProof.Rows.sortedAll_old) (Nat.le_succ _) ⟨hlen, out, ep, hv, he'⟩, rfl, q _ (I.hok.fresh (Nat.le_succ _))⟩
/-- sorted data -/
def sortD (ds : List Dt) : List Dt := ds.mergeSort (dataLe false toP)
def zSort (x : Dt) (R : DQ) : Prop := match x with
  | .lst ds => cmpOks 60 ds = true ∧ AllAlike (ds.map toP) ∧ Sortable (ds.map toP) ∧ R true (.lst (sortD ds))
  | _ => False
theorem cmpOks_mem {n : Nat} : ∀ {ds : List Dt}, cmpOks n ds = true → ∀ d ∈ ds, cmpOk n d = true
  | d :: ds, h, e, he => by
    unfold cmpOks at h
    rw [Bool.and_eq_true] at h
    rcases List.mem_cons.mp he with rfl | he
    · exact h.1
    · exact cmpOks_mem h.2 e he
theorem zip_fst {α β : Type} : ∀ {l : List α} {m : List β}, l.length = m.length → (l.zip m).map (·.1) = l
  | [], _, _ => rfl
  | a :: l, [], h => by cases h
  | a :: l, b :: m, h => by
    show a :: (l.zip m).map (·.1) = _
    rw [zip_fst (by simpa using h)]
theorem zip_snd {α β : Type} : ∀ {l : List α} {m : List β}, l.length = m.length → (l.zip m).map (·.2) = m
  | [], [], _ => rfl
  | [], _ :: _, h => by cases h
  | a :: l, [], h => by cases h
  | a :: l, b :: m, h => by
    show b :: (l.zip m).map (·.2) = _
    rw [zip_snd (by simpa using h)]
theorem frall_pairs {A : Addr → Prop} {H : Hp} : ∀ {bs : List (V × Dt)}, (∀ b ∈ bs, Fr A H b.2 b.1) → FrAll A H (bs.map (·.2)) (bs.map (·.1))
  | [], _ => rfl
  | b :: bs, h => .cons (h b (by simp)) (frall_pairs fun b hb => h b (by simp [hb]))
theorem z_sort {K : PySem.W.Frag} : UnZ (fun x H Q => rSortZ K [x] H Q) zSort := by
  intro c L H x dx Q R h wx hr k
  unfold zSort at hr
  split at hr
  · rename_i ds
    obtain ⟨hc, hal, hk, hr⟩ := hr
    obtain ⟨p, xs, rfl, g1, g2⟩ := wx.lst h
    have e1 : (xs.zip ds).map (·.1) = xs := zip_fst g2.length
    have e2 : (xs.zip ds).map (·.2) = ds := zip_snd g2.length
    have e3 : (xs.zip ds).map encB = ds.map toP := by
      have : (xs.zip ds).map encB = ((xs.zip ds).map (·.2)).map toP := by rw [List.map_map]; rfl
      rw [this, e2]
    have hm : ∀ b ∈ xs.zip ds, Fr (Al c L) H b.2 b.1 ∧ b.2 ∈ ds := fun b hb => by
      obtain ⟨i, hi⟩ := List.getElem?_of_mem hb
      obtain ⟨b1, b2⟩ := b
      rw [List.getElem?_zip_eq_some] at hi
      obtain ⟨v, hv, r⟩ := g2.get hi.2
      rw [hi.1] at hv; cases hv
      exact ⟨r, List.mem_of_getElem? hi.2⟩
    refine ⟨p, xs.zip ds, rfl, by rw [e1]; exact SqL.of g1, fun b hb => ?_, by rw [e3]; exact hal, by rw [e3]; exact hk, fun b hb => ?_, fun r hp => k _ _ _ _ hr ?_⟩
    · exact (fr_rp 60 b.2 b.1 (cmpOks_mem hc _ (hm b hb).2) (hm b hb).1).dp
    · exact (okD_toP 60 b.2 (cmpOks_mem hc _ (hm b hb).2)).2
    · refine h.newL ?_ hp (Ex.new hp) upd_same
      have : sortD ds = ((xs.zip ds).mergeSort (dataLe false encB)).map (·.2) := by
        have := PySem.W.sort_maps (r := dataLe false encB) (s := dataLe false toP) (fun b : V × Dt => b.2) (l := xs.zip ds) (fun a _ b _ => rfl)
        rw [this, e2]; rfl
      rw [this]
      exact frall_pairs fun b hb => (hm b (List.mem_mergeSort.mp hb)).1
  · exact hr.elim
/-- the order of texts -/
def leT (a b : List Nat) : Bool := decide (a ≤ b)
def sortT (l : List (List Nat)) : List (List Nat) := l.mergeSort leT
theorem sortD_strs (l : List (List Nat)) : sortD (l.map .str) = (sortT l).map .str := by
  unfold sortD sortT
  rw [PySem.W.sort_maps (s := dataLe false toP) (fun x : List Nat => Dt.str x)]
  intro a _ b _
  show leT a b = dataLe false toP (Dt.str a) (Dt.str b)
  have := congrFun (congrFun (PySem.W.dataLe_str (fun x : List Nat => S x)) a) b
  have e : dataLe false toP (Dt.str a) (Dt.str b) = dataLe false (fun x : List Nat => PyData.str (S x)) a b := rfl
  rw [e, this, S_cps, S_cps]; rfl
theorem alike_strs (l : List (List Nat)) : AllAlike ((l.map Dt.str).map toP) := by
  rw [List.map_map]
  exact PySem.W.AllAlike.of fun b b' => by simp [PySem.W.alike, Function.comp, toP]
theorem sortable_strs (l : List (List Nat)) : Sortable ((l.map Dt.str).map toP) := by
  rw [List.map_map]
  exact PySem.W.Sortable.others fun b => ⟨by simp [Function.comp, toP], by simp [Function.comp, toP]⟩
def okT (l : List Nat) : Prop := ∀ ch ∈ l, ch < 1114112
theorem cmpOks_of {n : Nat} {ds : List Dt} (h : ∀ d ∈ ds, cmpOk n d = true) : cmpOks n ds = true := by
  induction ds with
  | nil => unfold cmpOks; rfl
  | cons d ds ih =>
    unfold cmpOks
    rw [h d (by simp), ih fun e he => h e (by simp [he])]; rfl
theorem cmpOk_str {n : Nat} {l : List Nat} (h : okT l) : cmpOk (n + 1) (.str l) = true := by
  unfold cmpOk
  exact List.all_eq_true.mpr fun c hc => decide_eq_true (h c hc)
theorem cmpOks_strs {n : Nat} {l : List (List Nat)} (h : ∀ x ∈ l, okT x) : cmpOks (n + 1) (l.map .str) = true := cmpOks_of fun d hd => by
  obtain ⟨x, hx, rfl⟩ := List.mem_map.mp hd
  exact cmpOk_str (h x hx)
theorem zs_strs0 {l : List (List Nat)} {R : DQ} (h : ∀ x ∈ l, okT x) (k : R true (.lst ((sortT l).map .str))) : zSort (.lst (l.map .str)) R := by
  refine ⟨cmpOks_strs h, alike_strs l, sortable_strs l, ?_⟩
  rw [sortD_strs]; exact k
theorem min_two_str {P : Program} {w : World} {A : Around} {E : Value → Shared → Prop} {s : Shared} {a b : Str} {t u : Tok} {Q : Value → Shared → Prop} (hh : A.handled = none)
    (h : ∀ h' tk, (∀ c o, s.heap.get? c = some o → h'.get? c = some o) → Q (if b.cps.toList < a.cps.toList then .str b u else .str a t) { s with heap := h', toks := tk }) :
    wpAny (model P w) A (call (.builtin "min") [.str a t, .str b u]) Q E s := by
  have hT : (s.heap.push { cls := .type "tuple", data := .seq #[.str a t, .str b u] }).IsTuple s.heap.objs.size #[.str a t, .str b u] := ⟨_, Heap.get?_push_size _ rfl, rfl, 0, rfl⟩
  refine call_min_two (wpAny_pyIter_tuple hT ?_)
  have hsz : (s.heap.push { cls := .type "tuple", data := .seq #[.str a t, .str b u] }).objs.size = s.heap.objs.size + 1 := Heap.size_push ..
  refine ⟨_, [_, s.heap.objs.size], [_], _, _, _, fun i j => decide ((#[a, b].getD i a).cps.toList < (#[a, b].getD j a).cps.toList), rfl, Walks.tuple (A := A.in1) hh _ s.heap.objs.size (by rw [hsz]; exact Nat.ne_of_lt (Nat.lt_succ_self _)) #[.str a t, .str b u],
    ⟨⟨_, Heap.get?_push_size _ rfl, rfl, rfl⟩, hT.push _⟩, fun c hc => ?_, by simp, ?_, fun v h' tk hP hk => ?_⟩
  · show c < ((s.heap.push _).push _).objs.size
    rw [Heap.size_push, hsz]
    rcases List.mem_cons.mp hc with rfl | hc
    · rw [hsz]; exact Nat.lt_succ_self _
    · rcases List.mem_cons.mp hc with rfl | hc
      · exact Nat.lt_succ_of_lt (Nat.lt_succ_self _)
      · cases hc
  · intro i j vi vj s Q E hi hj hq
    have key : ∀ (i : Nat) (v : Value), (#[Value.str a t, .str b u] : Array Value)[i]? = some v → ∃ tk, v = .str (#[a, b].getD i a) tk := by
      intro i v h
      match i, h with
      | 0, h => simp at h; exact ⟨t, by simp [← h]⟩
      | 1, h => simp at h; exact ⟨u, by simp [← h]⟩
      | i + 2, h => simp at h
    obtain ⟨t1, rfl⟩ := key i vi hi
    obtain ⟨t2, rfl⟩ := key j vj hj
    exact (PyProof.Rows.lt_str hq : wpAny (model P w) _ (compareOp .Lt (.str _ t1) (.str _ t2)) Q E s)
  · have hold : ∀ c o, s.heap.get? c = some o → h'.get? c = some o := fun c o e => by
      refine hk c o (fun hm => ?_) (Heap.get?_push_of_some _ (Heap.get?_push_of_some _ e))
      rcases List.mem_cons.mp hm with e1 | hm
      · have := Heap.lt_size e; rw [e1, hsz] at this; exact Nat.lt_irrefl _ (Nat.lt_of_succ_lt this)
      · cases hm
    have := h h' tk hold
    have hv : v = if b.cps.toList < a.cps.toList then Value.str b u else Value.str a t := by
      have hP' : (#[Value.str a t, .str b u] : Array Value)[argBest (fun i j => decide ((#[a, b].getD i a).cps.toList < (#[a, b].getD j a).cps.toList)) 1]? = some v := hP
      by_cases hba : b.cps.toList < a.cps.toList
      · have e : argBest (fun i j => decide ((#[a, b].getD i a).cps.toList < (#[a, b].getD j a).cps.toList)) 1 = 1 := by simp [argBest, hba]
        rw [e] at hP'
        simpa [hba] using hP'.symm
      · have e : argBest (fun i j => decide ((#[a, b].getD i a).cps.toList < (#[a, b].getD j a).cps.toList)) 1 = 0 := by simp [argBest, hba]
        rw [e] at hP'
        simpa [hba] using hP'.symm
    rw [hv]; exact this
section
variable {X : Cx} {c : Ctx} {ta tb : TE} {oa ob : Opd}
def rMinS : List V → Hp → VK → Prop := fun xs H Q => ∃ a b, xs = [Tx a, Tx b] ∧ Q (Tx (if b < a then b else a)) H
theorem call_minS (hc : X.calm = true) : CallR X (.builtin "min") rMinS := by
  intro pins s σ H xs us Q I r h
  obtain ⟨a, b, rfl, q⟩ := h
  obtain ⟨u, w', rfl, ⟨t, rfl⟩, ⟨t', rfl⟩⟩ := vals2 r
  refine min_two_str (I.ok.hd hc) fun h' tk k => ⟨_, H, I.kept k, ?_, q⟩
  rw [S_cps, S_cps]
  by_cases hj : b < a
  · rw [if_pos hj, if_pos hj]; exact ⟨_, rfl⟩
  · rw [if_neg hj, if_neg hj]; exact ⟨_, rfl⟩
def rMinZ : List V → Hp → VK → Prop := fun xs H Q => (∃ i j, xs = [.int i, .int j] ∧ Q (.int (if j < i then j else i)) H) ∨ rMinS xs H Q
theorem call_minZ (hc : X.calm = true) : CallR X (.builtin "min") rMinZ := CallR.or (call_min2 hc) (call_minS hc)
def zMin (x y : Dt) (R : DQ) : Prop := match x, y with
  | .int i, .int j => R false (.int (if j < i then j else i))
  | .str a, .str b => R false (.str (if b < a then b else a))
  | _, _ => False
theorem z_min : OpZ (fun x y H Q => rMinZ [x, y] H Q) zMin := by
  intro c L H x y dx dy Q R h wx wy hr k
  unfold zMin at hr
  split at hr
  · rw [wx.scal_int h, wy.scal_int h]
    exact .inl ⟨_, _, rfl, k _ _ _ _ hr (h.int _)⟩
  · rw [wx.scal_str h, wy.scal_str h]
    exact .inr ⟨_, _, rfl, k _ _ _ _ hr (h.str _)⟩
  · exact hr.elim
theorem ce_cb2 {r : List V → Hp → VK → Prop} {rp : Dt → Dt → DQ → Prop} (ha : CO c ta oa) (hb : CO c tb ob) (hr : OpZ (fun x y H Q => r [x, y] H Q) rp) : CE c (tCB r (tCons ta (tCons tb tNil))) (pOp rp oa ob) :=
  ce_op (ta := ta) (tb := tb) ha hb hr
/-- tuple(..): the new tuple's object is known to have no dict -/
def rTupZ (K : PySem.W.Frag) : List V → Hp → VK → Prop := fun xs H Q => ∃ p ys, xs = [.ref p] ∧ ((SqL K H p ys ∧ ∀ (l : Addr) (o : Obj), H l = none → o.dict = none → Q (.ref l) (upd H l (.frz o (.tup ys)))) ∨ (SqT K H p ys ∧ Q (.ref p) H))
theorem call_tupZ {K : PySem.W.Frag} (hK : X.K = K) (hc : X.calm = true) : CallR X (.type "tuple") (rTupZ K) := by
  subst hK
  intro pins s σ H xs us Q I r h
  obtain ⟨p, ys, rfl, h⟩ := h
  obtain ⟨u, rfl, rx⟩ := vals1 r
  cases rx
  rcases h with ⟨hq, q⟩ | ⟨hq, q⟩
  · obtain ⟨its, r', pl, hz⟩ := I.list hq
    have hlen := r'.length
    refine call_tuple_list pl.isList (fun h' kp => ?_) (by simp only [List.size_toArray] <;> omega)
    have J : Inv X pins σ H { s with heap := h' } := I.kept (t' := s.toks) kp
    have J2 := J.laid (a := h'.objs.size) (o := .frz { cls := .type "tuple", data := .seq its.toArray } (.tup ys)) (t' := s.toks) (h' := h'.push { cls := .type "tuple", data := .seq its.toArray }) (fun b o e => Heap.get?_push_of_some _ e) (Nat.le_refl _)
      ⟨Heap.get?_push_size _ rfl, hz, its, r', IsTup.new _ _⟩
    exact ⟨.ref h'.objs.size, _, J2, rfl, q _ _ (J.hok.fresh (Nat.le_refl _)) rfl⟩
  · obtain ⟨its, r', pl, hz⟩ := I.tuple hq
    exact call_tuple_same pl ⟨.ref p, H, I, rfl, q⟩
theorem RelL.newK {c : Ctx} {L : List Pc} {H : Hp} (h : RelL c L H) {ds : List Dt} {xs : List V} (r : FrAll (Al c L) H ds xs) {p : Addr} {H2 : Hp} {o : Obj} (hp : H p = none) (e : Ex H H2) (ho : o.dict = none) (h2 : H2 p = some (.frz o (.tup xs))) : RelL c ((mkS false (.tpk ds), some (.ref p)) :: L) H2 :=
  (h.ex e).fr ⟨p, xs, o, rfl, ⟨c.nb _ (h.h0 hp), fun z => (owns_in h z).2 hp⟩, h2, ho, r.mono fun a o ha ho => ⟨ha, e _ _ ho⟩⟩
def zTup (x : Dt) (R : DQ) : Prop := match x with
  | .lst ds => R false (.tpk ds)
  | .tup ds => R false (.tup ds)
  | .tpk ds => R false (.tpk ds)
  | _ => False
theorem z_tup {K : PySem.W.Frag} : UnZ (fun x H Q => rTupZ K [x] H Q) zTup := by
  intro c L H x dx Q R h wx hr k
  unfold zTup at hr
  split at hr
  · obtain ⟨p, xs, rfl, g1, g2⟩ := wx.lst h
    exact ⟨p, xs, rfl, .inl ⟨SqL.of g1, fun l o hl ho => k _ _ _ _ hr (h.newK g2 hl (Ex.new hl) ho upd_same)⟩⟩
  · obtain ⟨p, xs, rfl, g0, g1, g2⟩ := wx.tup h
    exact ⟨p, xs, rfl, .inr ⟨.inl g1, k _ _ _ _ hr (h.fr ⟨p, xs, rfl, g0, g1, g2⟩)⟩⟩
  · obtain ⟨p, xs, o, rfl, g0, g1, g2, g3⟩ := wx.tpk h
    exact ⟨p, xs, rfl, .inr ⟨.inl (.inr ⟨o, g1⟩), k _ _ _ _ hr (h.fr ⟨p, xs, o, rfl, g0, g1, g2, g3⟩)⟩⟩
  · exact hr.elim
theorem z_run {t : TS} {tp : PTS} {N : List Str} {vs : List V} {Q : VK} {A Zd : Addr → Prop} {H : Hp} {ds : List Dt} {R : DQ} {n : Nat} (hf : FrAll A H ds vs) (hi : Iv (baseCtx A Zd H) H) (hn : N.length - ds.length = n) (k : ∀ b d v H', R b d → RelL (baseCtx A Zd H) [(mkS b d, some v)] H' → Q v H')
    (hc : CS (baseCtx A Zd H) t tp) (hp : tp ⟨fun _ => R false .non, R, fun _ => False, fun _ => False, fun _ _ => False⟩ (pStart ds n)) : t { nx := fun _ H' => Q .non H', rt := Q } (L2.start N vs) H := by
  have hs : L2.start N vs = vs.map some ++ List.replicate n none := by
    unfold L2.start
    rw [hf.length, hn]
  rw [hs]
  refine hc [] _ _ H _ _ (start_rel hf hi) hp ⟨fun s σ H' q h' => ?_, fun b d v H' q h' => k b d v H' q h', fun _ _ _ q _ => q.elim, fun _ _ _ q _ => q.elim, fun _ _ _ _ _ q _ => q.elim⟩
  exact k false .non .non H' q ((h'.2.scal (d := .non) (v := .non) fun _ _ => rfl).sub (List.cons_sublist_cons.mpr (List.nil_sublist _)))
theorem spZ_len {pf : PF} {n : Nat} (h : ∀ ds R, pf ds R → ds.length = n) {K : PySem.W.Frag} : ∀ vs H Q E, spZ pf vs H Q E → vs.length = n := fun vs H Q E ⟨A, Zd, ds, R, hf, _, hp, _⟩ => by rw [hf.length]; exact h _ _ hp
end
end Lt
namespace Lt
open PySem PySem.Spec PyProof.Rows L2 Evl
open SX (S)
variable [ZI]
section
variable {c : Ctx} {t ta tb : TE} {tp pa pb : PTE} {oa ob : Opd} {K : PySem.W.Frag}
@[reducible] def pJoin (pa : PTE) (ob : Opd) : PTE := fun s Q => pa s fun _ d s1 => match d with
  | .str a => pOpd ob s1 fun gb s2 => match gb s2 with
    | some y => zJoin (.str a) y fun b d => Q b d s2
    | none => False
  | _ => False
theorem ce_join (ha : CE c ta pa) (hb : CO c tb ob) : CE c (tBM K "str" (rJoinX K) ta (tCons tb tNil)) (pJoin pa ob) := fun F s σ H Q R h hp k =>
  ha F s σ H _ _ h hp fun b d s1 v H1 q h1 => by
    split at q
    · rename_i a
      refine ⟨by rw [str_of h1]; exact ty_str, hb _ s1 σ H1 _ _ h1.mkfz q fun gb s2 v2 H2 F2 q2 h2 w2 => ?_⟩
      split at q2
      · rename_i y ey
        have hx : Wk (s2.zip σ ++ (F2 ++ ((.fz (.str a), some v) :: F))) (.str a) v := .inl (List.mem_append_right _ (List.mem_append_right _ (List.mem_cons_self ..)))
        refine (z_join (K := K) c _ H2 v v2 (.str a) y Q _ h2.2 hx (w2 s2 [] H2 y ey h2) q2 fun b d v' H' rd hl => k _ _ _ _ _ rd ?_).2
        exact Rel.res (F2 := F2 ++ [(.fz (.str a), some v)]) h2.1 (by rw [List.append_assoc]; exact hl)
      · exact q2.elim
    · exact q.elim
def zIpAdd (x y : Dt) (R : DQ) : Prop := match x, y with
  | .int i, .int j => R false (.int (i + j))
  | .str a, .str b => a.length + b.length ≤ 16777216 ∧ R false (.str (a ++ b))
  | _, _ => False
def zIpSub (x y : Dt) (R : DQ) : Prop := zI0 (· - ·) x y R
/-- a law's walk, behind its drawing list -/
theorem z_law {t : TS} {tp : PTS} {vs : List V} {Q : VK} {H : Hp} {ds : List Dt} {n : Nat} (hf : FrAll (fun _ => True) H ds vs) (hi : IvH H) (k : ∀ H', Q (.bl true) H')
    (hc : CS (baseCtx (fun _ => True) (fun _ => True) H) t tp) (hp : tp ⟨fun _ => False, fun _ d => d = .bl true, fun _ => False, fun _ => False, fun _ _ => False⟩ (pStart ds n)) {f : L2.St → Hp → Prop} : t { nx := f, rt := Q } (vs.map some ++ List.replicate n none) H :=
  hc [] _ _ H _ _ (start_rel hf hi.base) hp ⟨fun s σ H' q h' => q.elim, fun b d v H' q h' => by
    subst q
    have : v = .bl true := h'.mkfz.ok _ (List.mem_cons_self ..)
    subst this; exact k _, fun _ _ _ q _ => q.elim, fun _ _ _ q _ => q.elim, fun _ _ _ _ _ q _ => q.elim⟩
end
section
variable {c : Ctx} {L : List Pc} {H H' : Hp}
theorem sub_int (h : RelL c L H) (e : Ex H H') (i : Int) : RelL (subCtx c L H) [(mkS false (.int i), some (.int i))] H' := ((RelL.start (subCtx c L H) (Iv.sub h)).ex e).int i
theorem sub_str (h : RelL c L H) (e : Ex H H') (i : List Nat) : RelL (subCtx c L H) [(mkS false (.str i), some (Tx i))] H' := ((RelL.start (subCtx c L H) (Iv.sub h)).ex e).str i
theorem sub_bl (h : RelL c L H) (e : Ex H H') (i : Bool) : RelL (subCtx c L H) [(mkS false (.bl i), some (.bl i))] H' := ((RelL.start (subCtx c L H) (Iv.sub h)).ex e).bl i
end
end Lt
namespace Lt
open PySem PySem.Spec PyProof.Rows L2 Evl
open SX (S)
variable [ZI]
section
variable {i j : Int} {a b l m : List Nat} {ch dh : Nat} {p q : Bool} {ds es : List Dt} {R : DQ} {x y d : Dt}
theorem zAdd_i : zAdd (.int i) (.int j) R = R false (.int (i + j)) := rfl
theorem zAdd_s : zAdd (.str a) (.str b) R = (a.length + b.length ≤ 16777216 ∧ R false (.str (a ++ b))) := rfl
theorem zAdd_l : zAdd (.lst ds) (.lst es) R = (ds.length + es.length ≤ 16777216 ∧ R true (.lst (ds ++ es))) := rfl
theorem zAdd_t : zAdd (.tup ds) (.tup es) R = (ds.length + es.length ≤ 16777216 ∧ R false (.tup (ds ++ es))) := rfl
theorem zIpAdd_i : zIpAdd (.int i) (.int j) R = R false (.int (i + j)) := rfl
theorem zIpAdd_s : zIpAdd (.str a) (.str b) R = (a.length + b.length ≤ 16777216 ∧ R false (.str (a ++ b))) := rfl
theorem zIpSub_i : zIpSub (.int i) (.int j) R = R false (.int (i - j)) := rfl
theorem zSub_i : zSub (.int i) (.int j) R = R false (.int (i - j)) := rfl
theorem zMul_i : zMul (.int i) (.int j) R = (CMul i j ∧ R false (.int (i * j))) := rfl
theorem zMod_i : zMod (.int i) (.int j) R = (j ≠ 0 ∧ R false (.int (Int.fmod i j))) := rfl
theorem zDiv_i : zDiv (.int i) (.int j) R = (CDivN i j ∧ R false (.int (Int.fdiv i j))) := rfl
theorem zPow_i : zPow (.int i) (.int j) R = (CPow i j ∧ R false (.int (i ^ j.toNat))) := rfl
theorem zNeg_i : zNeg (.int i) R = R false (.int (-i)) := rfl
theorem zLt_i : zLt (.int i) (.int j) R = R false (.bl (decide (i < j))) := rfl
theorem zGt_i : zGt (.int i) (.int j) R = R false (.bl (decide (j < i))) := rfl
theorem zLe_i : zLe (.int i) (.int j) R = R false (.bl (decide (i ≤ j))) := rfl
theorem zGe_i : zGe (.int i) (.int j) R = R false (.bl (decide (j ≤ i))) := rfl
theorem zLt_s : zLt (.str a) (.str b) R = R false (.bl (decide (a < b))) := rfl
theorem zGt_s : zGt (.str a) (.str b) R = R false (.bl (decide (b < a))) := rfl
theorem zLe_s : zLe (.str a) (.str b) R = R false (.bl (!decide (b < a))) := rfl
theorem zGe_s : zGe (.str a) (.str b) R = R false (.bl (!decide (a < b))) := rfl
theorem zLt_c : zLt (.str [ch]) (.str [dh]) R = R false (.bl (decide (ch < dh))) := by rw [zLt_s, lt_one]
theorem zGt_c : zGt (.str [ch]) (.str [dh]) R = R false (.bl (decide (dh < ch))) := by rw [zGt_s, lt_one]
theorem zLe_c : zLe (.str [ch]) (.str [dh]) R = R false (.bl (decide (ch ≤ dh))) := by
  have e : (!decide (dh < ch)) = decide (ch ≤ dh) := by by_cases q : dh < ch <;> simp [q] <;> omega
  rw [zLe_s, lt_one, e]
theorem zGe_c : zGe (.str [ch]) (.str [dh]) R = R false (.bl (decide (dh ≤ ch))) := by
  have e : (!decide (ch < dh)) = decide (dh ≤ ch) := by by_cases q : ch < dh <;> simp [q] <;> omega
  rw [zGe_s, lt_one, e]
theorem zEq_i : zEq (.int i) (.int j) R = R false (.bl (decide (i = j))) := by simp [zEq, zEqG]
theorem zNe_i : zNe (.int i) (.int j) R = R false (.bl (!decide (i = j))) := by simp [zNe, zEqG]
theorem zEq_s : zEq (.str a) (.str b) R = R false (.bl (decide (a = b))) := by simp [zEq, zEqG]
theorem zNe_s : zNe (.str a) (.str b) R = R false (.bl (!decide (a = b))) := by simp [zNe, zEqG]
theorem zEq_b : zEq (.bl p) (.bl q) R = R false (.bl (decide (p = q))) := by simp [zEq, zEqG]
theorem zNe_b : zNe (.bl p) (.bl q) R = R false (.bl (!decide (p = q))) := by simp [zNe, zEqG]
theorem one_eq (c d : Nat) : decide ([c] = [d]) = decide (c = d) := by by_cases q : c = d <;> simp [q]
theorem zEq_c : zEq (.str [ch]) (.str [dh]) R = R false (.bl (decide (ch = dh))) := by rw [zEq_s, one_eq]
theorem zNe_c : zNe (.str [ch]) (.str [dh]) R = R false (.bl (!decide (ch = dh))) := by rw [zNe_s, one_eq]
theorem eqD_nil : eqD (.lst ds) (.lst []) = ds.isEmpty := by
  cases ds <;> rfl
theorem eqD_nilT : eqD (.tup ds) (.tup []) = ds.isEmpty := by
  cases ds <;> rfl
theorem cmpOk_nil {n : Nat} : cmpOk (n + 1) (.lst []) = true := rfl
theorem cmpOk_nilT {n : Nat} : cmpOk (n + 1) (.tup []) = true := rfl
theorem zEq_nil : zEq (.lst ds) (.lst []) R = (cmpOks 59 ds = true ∧ R false (.bl ds.isEmpty)) := by
  simp only [zEq, zEqG, cmpOk_nil, eqD_nil, true_and, Bool.false_bne]; rfl
theorem zNe_nil : zNe (.lst ds) (.lst []) R = (cmpOks 59 ds = true ∧ R false (.bl (!ds.isEmpty))) := by
  simp only [zNe, zEqG, cmpOk_nil, eqD_nil, true_and, Bool.true_bne]; rfl
theorem zEq_nilT : zEq (.tup ds) (.tup []) R = (cmpOks 59 ds = true ∧ R false (.bl ds.isEmpty)) := by
  simp only [zEq, zEqG, cmpOk_nilT, eqD_nilT, true_and, Bool.false_bne]; rfl
theorem zNe_nilT : zNe (.tup ds) (.tup []) R = (cmpOks 59 ds = true ∧ R false (.bl (!ds.isEmpty))) := by
  simp only [zNe, zEqG, cmpOk_nilT, eqD_nilT, true_and, Bool.true_bne]; rfl
theorem zIn_s : zIn (.str [ch]) (.str l) R = R false (.bl (decide (ch ∈ l))) := by
  simp [zIn, zInG, zInG0, fgt]
theorem zNotIn_s : zNotIn (.str [ch]) (.str l) R = R false (.bl (!decide (ch ∈ l))) := by
  simp [zNotIn, zInG, zInG0, fgt]
theorem zIsN_n : zIsN .non .non R = R false (.bl true) := rfl
theorem zNotN_n : zNotN .non .non R = R false (.bl false) := rfl
theorem zIsN_i : zIsN (.int i) .non R = R false (.bl false) := rfl
theorem zIsN_s : zIsN (.str a) .non R = R false (.bl false) := rfl
theorem zIsN_b : zIsN (.bl p) .non R = R false (.bl false) := rfl
theorem zIsN_t : zIsN (.tup ds) .non R = R false (.bl false) := rfl
theorem zIsN_l : zIsN (.lst ds) .non R = R false (.bl false) := rfl
theorem zNotN_i : zNotN (.int i) .non R = R false (.bl true) := rfl
theorem zNotN_s : zNotN (.str a) .non R = R false (.bl true) := rfl
theorem zNotN_b : zNotN (.bl p) .non R = R false (.bl true) := rfl
theorem zNotN_t : zNotN (.tup ds) .non R = R false (.bl true) := rfl
theorem zNotN_l : zNotN (.lst ds) .non R = R false (.bl true) := rfl
theorem zLen_s : zLen (.str a) R = (a.length ≤ 16777216 ∧ R false (.int a.length)) := rfl
theorem zLen_l : zLen (.lst ds) R = R false (.int ds.length) := rfl
theorem zLen_t : zLen (.tup ds) R = R false (.int ds.length) := rfl
theorem zAbs_i : zAbs (.int i) R = R false (.int (if i < 0 then -i else i)) := rfl
theorem zList_s : zList (.str a) R = (a.length ≤ 16777216 ∧ R true (.lst (a.map fun ch => .str [ch]))) := rfl
theorem zList_l : zList (.lst ds) R = R true (.lst ds) := rfl
theorem zList_t : zList (.tup ds) R = R true (.lst ds) := rfl
theorem zTup_l : zTup (.lst ds) R = R false (.tpk ds) := rfl
theorem zTup_k : zTup (.tpk ds) R = R false (.tpk ds) := rfl
theorem zLen_k : zLen (.tpk ds) R = R false (.int ds.length) := rfl
theorem zList_k : zList (.tpk ds) R = R true (.lst ds) := rfl
theorem zIsN_k : zIsN (.tpk ds) .non R = R false (.bl false) := rfl
theorem zNotN_k : zNotN (.tpk ds) .non R = R false (.bl true) := rfl
theorem zSl_k {lo hi : Option Int} : zSl (.tpk ds) lo hi R = R false (.tup (cutL ds lo hi)) := rfl
theorem zIs_k {n : String} : zIs n (.tpk ds) R = R false (.bl (isiB "tuple" n)) := rfl
theorem zAdd_k : zAdd (.tpk ds) (.tpk es) R = (ds.length + es.length ≤ 16777216 ∧ R false (.tup (ds ++ es))) := rfl
theorem zTup_t : zTup (.tup ds) R = R false (.tup ds) := rfl
theorem zRev_s : zRev (.str a) R = (a.length ≤ 16777216 ∧ R false (.str a.reverse)) := rfl
theorem zRevL_l : zRevL (.lst ds) R = R true (.lst ds.reverse) := rfl
theorem zMin_i : zMin (.int i) (.int j) R = R false (.int (if j < i then j else i)) := rfl
theorem zMin_s : zMin (.str a) (.str b) R = R false (.str (if b < a then b else a)) := rfl
theorem zSl_s {lo hi : Option Int} : zSl (.str a) lo hi R = (a.length ≤ 16777216 ∧ R false (.str (cutL a lo hi))) := rfl
theorem zSl_l {lo hi : Option Int} : zSl (.lst ds) lo hi R = R true (.lst (cutL ds lo hi)) := rfl
theorem zSl_t {lo hi : Option Int} : zSl (.tup ds) lo hi R = R false (.tup (cutL ds lo hi)) := rfl
theorem zIs_s {n : String} : zIs n (.str a) R = R false (.bl (isiB "str" n)) := rfl
theorem zIs_i {n : String} : zIs n (.int i) R = R false (.bl (isiB "int" n)) := rfl
theorem zIs_b {n : String} : zIs n (.bl p) R = R false (.bl (isiB "bool" n)) := rfl
theorem zIs_n {n : String} : zIs n .non R = R false (.bl (isiB "NoneType" n)) := rfl
theorem zIs_l {n : String} : zIs n (.lst ds) R = R false (.bl (isiB "list" n)) := rfl
theorem zIs_t {n : String} : zIs n (.tup ds) R = R false (.bl (isiB "tuple" n)) := rfl
theorem isi_ss : isiB "str" "str" = true := by decide
theorem isi_st : isiB "str" "tuple" = false := by decide
theorem isi_sl : isiB "str" "list" = false := by decide
theorem isi_si : isiB "str" "int" = false := by decide
theorem isi_sb : isiB "str" "bool" = false := by decide
theorem isi_is : isiB "int" "str" = false := by decide
theorem isi_it : isiB "int" "tuple" = false := by decide
theorem isi_il : isiB "int" "list" = false := by decide
theorem isi_ii : isiB "int" "int" = true := by decide
theorem isi_ib : isiB "int" "bool" = false := by decide
theorem isi_bs : isiB "bool" "str" = false := by decide
theorem isi_bt : isiB "bool" "tuple" = false := by decide
theorem isi_bl : isiB "bool" "list" = false := by decide
theorem isi_bi : isiB "bool" "int" = true := by decide
theorem isi_bb : isiB "bool" "bool" = true := by decide
theorem isi_ns : isiB "NoneType" "str" = false := by decide
theorem isi_nt : isiB "NoneType" "tuple" = false := by decide
theorem isi_nl : isiB "NoneType" "list" = false := by decide
theorem isi_ni : isiB "NoneType" "int" = false := by decide
theorem isi_nb : isiB "NoneType" "bool" = false := by decide
theorem isi_ts : isiB "tuple" "str" = false := by decide
theorem isi_tt : isiB "tuple" "tuple" = true := by decide
theorem isi_tl : isiB "tuple" "list" = false := by decide
theorem isi_ti : isiB "tuple" "int" = false := by decide
theorem isi_tb : isiB "tuple" "bool" = false := by decide
theorem isi_ls : isiB "list" "str" = false := by decide
theorem isi_lt : isiB "list" "tuple" = false := by decide
theorem isi_ll : isiB "list" "list" = true := by decide
theorem isi_li : isiB "list" "int" = false := by decide
theorem isi_lb : isiB "list" "bool" = false := by decide
theorem ifT {A B : Prop} : (if true = true then A else B) = A := by simp
theorem ifF {A B : Prop} : (if false = true then A else B) = B := by simp
/-- subscripts -/
theorem zIx_s {k : Nat} (hl : a.length ≤ 16777216) (hk : k < a.length) (e : i = k ∨ i = (k : Int) - a.length) (h : ∀ ch, a[k]? = some ch → R false (.str [ch])) : zIx (.str a) (.int i) R := ⟨hl, k, ⟨hk, e⟩, h⟩
theorem zIx_l {k : Nat} (hk : k < ds.length) (e : i = k ∨ i = (k : Int) - ds.length) (h : ∀ d, ds[k]? = some d → R false d) : zIx (.lst ds) (.int i) R := ⟨k, ⟨hk, e⟩, h⟩
theorem zIx_t {k : Nat} (hk : k < ds.length) (e : i = k ∨ i = (k : Int) - ds.length) (h : ∀ d, ds[k]? = some d → R false d) : zIx (.tup ds) (.int i) R := ⟨k, ⟨hk, e⟩, h⟩
theorem zIx_t0 : zIx (.tup (d :: ds)) (.int 0) R = R false d := by
  refine propext ⟨fun ⟨k, ⟨h1, h2⟩, h3⟩ => ?_, fun h => zIx_t (k := 0) (by simp) (.inl rfl) (by simpa using h)⟩
  have : k = 0 := by simp at h1 h2; omega
  subst this
  exact h3 d rfl
theorem zIx_t1 {e : Dt} : zIx (.tup (d :: e :: ds)) (.int 1) R = R false e := by
  refine propext ⟨fun ⟨k, ⟨h1, h2⟩, h3⟩ => ?_, fun h => zIx_t (k := 1) (by simp) (.inl rfl) (by simpa using h)⟩
  have : k = 1 := by simp at h1 h2; omega
  subst this
  exact h3 e rfl
theorem zIx_t2 {e f : Dt} : zIx (.tup (d :: e :: f :: ds)) (.int 2) R = R false f := by
  refine propext ⟨fun ⟨k, ⟨h1, h2⟩, h3⟩ => ?_, fun h => zIx_t (k := 2) (by simp) (.inl rfl) (by simpa using h)⟩
  have : k = 2 := by simp at h1 h2; omega
  subst this
  exact h3 f rfl
theorem zAll_l {bs : List Bool} (h : R false (.bl (bs.all id))) : zAll (.lst (bs.map .bl)) R := ⟨bs, rfl, h⟩
theorem zJoin_l {ls : List (List Nat)} (hz : (ls.map (·.length)).sum + ls.length * a.length ≤ 16777216) (h : R false (.str (TL.joinL a ls))) : zJoin (.str a) (.lst (ls.map .str)) R := ⟨ls, rfl, hz, h⟩
end
/-- comprehensions: what is kept so far -/
theorem fm_step {α β : Type} {l : List α} {i : Nat} {x : α} {p : α → Bool} {f : α → β} (h : l[i]? = some x) : ((l.take (i + 1)).filter p).map f = ((l.take i).filter p).map f ++ if p x = true then [f x] else [] := by
  rw [take_more h, List.filter_append, List.map_append]
  by_cases c : p x = true
  · simp [c]
  · simp [c]
theorem m_step {α β : Type} {l : List α} {i : Nat} {x : α} {f : α → β} (h : l[i]? = some x) : (l.take (i + 1)).map f = (l.take i).map f ++ [f x] := by
  rw [take_more h, List.map_append]; rfl
/-- a comprehension over known items -/
def LcGoal (gp : PTG) (tt : PTT) (te : PTE) (vs : List Nat) (items : List Dt) (s1 : PSt) (Q : PQ) : Prop := items.length ≤ 16000000 ∧ ∃ G : Nat → List Dt → Prop, G 0 [] ∧
  (∀ i d acc, items[i]? = some d → G i acc → gp d (wipeS s1 vs) fun s2 => tt s2 fun b s3 => if b = true then te s3 fun _ e s4 => wipeS s4 vs = wipeS s1 vs ∧ G (i + 1) (acc ++ [e]) else wipeS s3 vs = wipeS s1 vs ∧ G (i + 1) acc) ∧
  ∀ acc, G items.length acc → acc.length ≤ items.length → Q true (.lst acc) (wipeS s1 vs)
theorem pLc_go {ks : List Nat} {ip : PTI} {gp : PTG} {tt : PTT} {te : PTE} {vs : List Nat} {s : PSt} {Q : PQ} (h : ip (frzS s ks) fun items s1 => LcGoal gp tt te vs items s1 Q) : pLc ks ip gp tt te vs s Q := h
def ForGoal (gp : PTG) (tb : PTS) (P : PEnds) (items : List Dt) (s1 : PSt) : Prop := ∃ I : Nat → PSt → Prop, I 0 s1 ∧
  (∀ i d s2, items[i]? = some d → I i s2 → gp d s2 fun s3 => tb { P with nx := I (i + 1), ct := I (i + 1), bk := P.nx } s3) ∧ ∀ s2, I items.length s2 → P.nx s2
theorem pFor_go {ip : PTI} {gp : PTG} {tb : PTS} {P : PEnds} {s : PSt} (h : ip s fun items s1 => ForGoal gp tb P items s1) : pFor ip gp tb P s := h
section
variable {gp : PTG} {tt : PTT} {te : PTE} {tb : PTS} {P : PEnds} {vs : List Nat} {s1 : PSt} {items : List Dt} {Q : PQ} {α : Type}
/-- [f x for x in l] -/
theorem lc_map (l : List α) (g : α → Dt) (f : α → Dt) (e : items = l.map g) (hz : l.length ≤ 16000000)
    (hs : ∀ i x (acc : List Dt) (G : Nat → List Dt → Prop), l[i]? = some x → G (i + 1) (acc ++ [f x]) → gp (g x) (wipeS s1 vs) fun s2 => tt s2 fun b s3 => if b = true then te s3 fun _ e s4 => wipeS s4 vs = wipeS s1 vs ∧ G (i + 1) (acc ++ [e]) else wipeS s3 vs = wipeS s1 vs ∧ G (i + 1) acc)
    (hd : Q true (.lst (l.map f)) (wipeS s1 vs)) : LcGoal gp tt te vs items s1 Q := by
  subst e
  refine ⟨by simpa using hz, fun i acc => acc = (l.take i).map f, rfl, ?_, ?_⟩
  · rintro i d acc hd rfl
    rw [List.getElem?_map] at hd
    cases hx : l[i]? with
    | none => rw [hx] at hd; cases hd
    | some x =>
      rw [hx] at hd
      cases hd
      exact hs i x _ (fun i acc => acc = (l.take i).map f) hx (m_step hx).symm
  · rintro acc rfl _
    simpa using hd
/-- [f x for x in l if p x] -/
theorem lc_fm (l : List α) (g : α → Dt) (p : α → Bool) (f : α → Dt) (e : items = l.map g) (hz : l.length ≤ 16000000)
    (hs : ∀ i x (acc : List Dt) (G : Nat → List Dt → Prop), l[i]? = some x → G (i + 1) (acc ++ if p x = true then [f x] else []) → gp (g x) (wipeS s1 vs) fun s2 => tt s2 fun b s3 => if b = true then te s3 fun _ e s4 => wipeS s4 vs = wipeS s1 vs ∧ G (i + 1) (acc ++ [e]) else wipeS s3 vs = wipeS s1 vs ∧ G (i + 1) acc)
    (hd : Q true (.lst ((l.filter p).map f)) (wipeS s1 vs)) : LcGoal gp tt te vs items s1 Q := by
  subst e
  refine ⟨by simpa using hz, fun i acc => acc = ((l.take i).filter p).map f, rfl, ?_, ?_⟩
  · rintro i d acc hd rfl
    rw [List.getElem?_map] at hd
    cases hx : l[i]? with
    | none => rw [hx] at hd; cases hd
    | some x =>
      rw [hx] at hd
      cases hd
      exact hs i x _ (fun i acc => acc = ((l.take i).filter p).map f) hx (fm_step hx).symm
  · rintro acc rfl _
    simpa using hd
/-- a comprehension, whatever is drawn in it -/
theorem lc_any (l : List α) (g : α → Dt) (G : Nat → List Dt → Prop) (e : items = l.map g) (hz : l.length ≤ 16000000) (h0 : G 0 [])
    (hs : ∀ i x acc, l[i]? = some x → G i acc → gp (g x) (wipeS s1 vs) fun s2 => tt s2 fun b s3 => if b = true then te s3 fun _ e s4 => wipeS s4 vs = wipeS s1 vs ∧ G (i + 1) (acc ++ [e]) else wipeS s3 vs = wipeS s1 vs ∧ G (i + 1) acc)
    (hd : ∀ acc, G l.length acc → acc.length ≤ l.length → Q true (.lst acc) (wipeS s1 vs)) : LcGoal gp tt te vs items s1 Q := by
  subst e
  refine ⟨by simpa using hz, G, h0, ?_, by simpa using hd⟩
  rintro i d acc hd ga
  rw [List.getElem?_map] at hd
  cases hx : l[i]? with
  | none => rw [hx] at hd; cases hd
  | some x =>
    rw [hx] at hd
    cases hd
    exact hs i x acc hx ga
/-- for x in l -/
theorem for_l (l : List α) (g : α → Dt) (I : Nat → PSt → Prop) (e : items = l.map g) (h0 : I 0 s1)
    (hs : ∀ i x s2, l[i]? = some x → I i s2 → gp (g x) s2 fun s3 => tb { P with nx := I (i + 1), ct := I (i + 1), bk := P.nx } s3) (hd : ∀ s2, I l.length s2 → P.nx s2) : ForGoal gp tb P items s1 := by
  subst e
  refine ⟨I, h0, ?_, by simpa using hd⟩
  rintro i d s2 hd i2
  rw [List.getElem?_map] at hd
  cases hx : l[i]? with
  | none => rw [hx] at hd; cases hd
  | some x =>
    rw [hx] at hd
    cases hd
    exact hs i x s2 hx i2
theorem for_r (n : Nat) (I : Nat → PSt → Prop) (e : items = (List.range n).map fun i : Nat => .int (i : Int)) (h0 : I 0 s1)
    (hs : ∀ (i : Nat) s2, i < n → I i s2 → gp (.int (i : Int)) s2 fun s3 => tb { P with nx := I (i + 1), ct := I (i + 1), bk := P.nx } s3) (hd : ∀ s2, I n s2 → P.nx s2) : ForGoal gp tb P items s1 :=
  for_l (List.range n) _ I e h0 (fun i x s2 hx i2 => by
    have hi : i < n := by simpa using (List.getElem?_eq_some_iff.mp hx).1
    rw [List.getElem?_range hi] at hx
    cases hx
    exact hs i s2 hi i2) (by simpa using hd)
end
theorem pSl_f {s : PSt} {d : Dt} : pSl (.fz d :: s) 0 = some d := rfl
theorem pSl_o {s : PSt} {d : Dt} : pSl (.ow d :: s) 0 = some d := rfl
theorem pSl_k {s : PSt} {a : Sl} {k : Nat} : pSl (a :: s) (k + 1) = pSl s k := rfl
theorem mkS_t {d : Dt} : mkS true d = .ow d := rfl
theorem mkS_f {d : Dt} : mkS false d = .fz d := rfl
theorem enumD_signs (l : List Nat) : enumD (signsD l) = (List.range l.length).map fun i : Nat => .tup [.int (i : Int), .str [l.getD i 0]] := by
  unfold enumD signsD
  rw [List.length_map]
  refine List.map_congr_left fun i hi => ?_
  rw [List.mem_range] at hi
  simp [List.getD_eq_getElem?_getD, hi]
theorem zipD_map {α β : Type} (l : List α) (m : List β) (f : α → Dt) (g : β → Dt) : zipD (l.map f) (m.map g) = (l.zip m).map fun q => .tup [f q.1, g q.2] := by
  unfold zipD
  rw [List.zipWith_map, List.zip]
  rw [List.map_zipWith]
theorem zipD_signs (l m : List Nat) : zipD (signsD l) (signsD m) = (l.zip m).map fun q => .tup [.str [q.1], .str [q.2]] := zipD_map l m _ _
end Lt
namespace Lt
open PySem PySem.Spec PyProof.Rows L2
open PySem.Froz (sObj SD TxOk addTx tailTx add_x upd_const get_upd)
/-- the text of a value -/
def kS : Value → Str
  | .str k _ => k
  | _ => ⟨#[]⟩
structure SxD (P : Program) (w : World) (D : SD) (l : List Str) : Prop where
  ok : TxOk P w D l
  st : ∀ e ∈ D.1.toList, ∃ k t, e.2 = Value.str k t
  pm : (D.1.toList.map fun e => kS e.2).Perm l
  nd : l.Nodup
  ris : Ris D.2.2.place.toList
  led : w.params.followText "set-order" = true ∨ D.2.2.led = true
section
variable {P : Program} {w : World} {A : Around} {E : Value → Shared → Prop} {s : Shared}
theorem SxD.tail {ep : Nat} {em : Array (Int × Value)} {tb : SetTable} {wd : Bool} {l : List Str} (F : SxD P w (em, ep, tb) l) : SxD P w (tailTx ep em tb wd) l := by
  have g := Froz.tail_ok (wasDummy := wd) F.ok
  unfold tailTx at g ⊢
  by_cases c : (!wd && tb.tooFull) = true
  · rw [if_pos c] at g ⊢
    have pm := relayAll_perm tb em (SetTable.grown em.size)
    exact ⟨g, fun e he => F.st e (pm.mem_iff.mp he), (pm.map fun e => kS e.2).trans F.pm, F.nd, relayAll_ris .., F.led.imp id fun z => (relayAll_led ..).trans z⟩
  · rw [if_neg c] at g ⊢
    exact ⟨g, F.st, F.pm, F.nd, F.ris, F.led⟩
theorem SxD.add {D : SD} {l : List Str} {k : Str} (u : Tok) (F : SxD P w D l) (hk : k ∉ l) : SxD P w (addTx (hashStr w k) (.str k u) D) (k :: l) := by
  obtain ⟨em, ep, tb⟩ := D
  have pm := layNew_perm tb em (hashStr w k) (.str k u)
  have pc := (Array.toList_push .. ▸ pm : (layNew tb em (hashStr w k) (.str k u)).1.toList.Perm (em.toList ++ [(hashStr w k, Value.str k u)])).trans (List.perm_append_singleton _ _)
  have h2 : ∀ e ∈ (layNew tb em (hashStr w k) (.str k u)).1.toList, ∃ k t, e.2 = Value.str k t := fun e he => by
    rcases List.mem_cons.mp (pc.mem_iff.mp he) with z | z
    · exact ⟨k, u, by rw [z]⟩
    · exact F.st e z
  have h3 : ((layNew tb em (hashStr w k) (.str k u)).1.toList.map fun e => kS e.2).Perm (k :: l) := (pc.map fun (e : Int × Value) => kS e.2).trans (F.pm.cons k)
  have h5 := layNew_ris tb em (hashStr w k) (.str k u) F.ris
  have h6 := F.led.imp id fun z => (layNew_led tb em (hashStr w k) (.str k u)).trans z
  have hf := layNew_fits tb em (hashStr w k) (.str k u)
  refine SxD.tail ?_
  by_cases c : (layNew tb em (hashStr w k) (.str k u)).2.1.plain = true
  · rw [if_pos c]
    exact ⟨F.ok.push pm (SetTable.fits_plain_off hf), h2, h3, List.nodup_cons.mpr ⟨hk, F.nd⟩, h5, h6⟩
  · rw [if_neg c]
    exact ⟨F.ok.push pm hf, h2, h3, List.nodup_cons.mpr ⟨hk, F.nd⟩, h5, h6⟩
/-- the set at a -/
def SetS (P : Program) (w : World) (h : Heap) (a : Addr) (l : List Str) : Prop := ∃ D, h.get? a = some (sObj "set" D) ∧ SxD P w D l
theorem SetS.at {h h' : Heap} {a : Addr} {l : List Str} (R : SetS P w h a l) (k : ∀ o, h.get? a = some o → h'.get? a = some o) : SetS P w h' a l :=
  let ⟨D, e, F⟩ := R
  ⟨D, k _ e, F⟩
end
end Lt
namespace Lt
open PySem PySem.Spec PyProof.Rows L2 Evl
open SX (S)
variable [ZI]
open PySem.W (EachIs dataLe)
/-- the texts met, each once; sorted -/
def metT : List (List Nat) → List (List Nat) → List (List Nat)
  | [], l => l
  | k :: ks, l => metT ks (if k ∈ l then l else k :: l)
def setT (l : List (List Nat)) : List (List Nat) := sortT (metT l [])
theorem metT_mem {x : List Nat} : ∀ (ks l : List (List Nat)), x ∈ metT ks l ↔ x ∈ l ∨ x ∈ ks
  | [], l => by simp [metT]
  | k :: ks, l => by
    show x ∈ metT ks _ ↔ _
    rw [metT_mem ks]
    split
    · rename_i c
      simp only [List.mem_cons]
      exact ⟨fun z => z.elim .inl fun z => .inr (.inr z), fun z => z.elim .inl fun z => z.elim (fun z => .inl (z ▸ c)) .inr⟩
    · simp only [List.mem_cons, or_assoc, or_left_comm]
theorem metT_nodup : ∀ {ks l : List (List Nat)}, l.Nodup → (metT ks l).Nodup
  | [], _, h => h
  | k :: ks, l, h => by
    show (metT ks _).Nodup
    split
    · exact metT_nodup h
    · rename_i c
      exact metT_nodup (List.nodup_cons.mpr ⟨c, h⟩)
theorem setT_mem {l : List (List Nat)} {x : List Nat} : x ∈ setT l ↔ x ∈ l := by
  unfold setT sortT
  rw [List.mem_mergeSort, metT_mem]
  simp
theorem setT_nodup (l : List (List Nat)) : (setT l).Nodup := (List.mergeSort_perm ..).nodup_iff.mpr (metT_nodup List.nodup_nil)
theorem leT_trans (a b c : List Nat) (h : leT a b = true) (k : leT b c = true) : leT a c = true := decide_eq_true (List.le_trans (of_decide_eq_true h) (of_decide_eq_true k))
theorem leT_total (a b : List Nat) : (leT a b || leT b a) = true := by
  unfold leT
  rw [Bool.or_eq_true, decide_eq_true_eq, decide_eq_true_eq]
  exact List.le_total a b
theorem leT_anti {a b : List Nat} (h : leT a b = true) (k : leT b a = true) : a = b := List.le_antisymm (of_decide_eq_true h) (of_decide_eq_true k)
theorem sortT_perm {l m : List (List Nat)} (h : l.Perm m) : sortT l = sortT m :=
  List.Perm.eq_of_pairwise (le := fun a b => leT a b = true) (fun a b _ _ => leT_anti) (List.pairwise_mergeSort leT_trans leT_total l) (List.pairwise_mergeSort leT_trans leT_total m)
    ((List.mergeSort_perm ..).trans (h.trans (List.mergeSort_perm ..).symm))
theorem sortT_sorted (l : List (List Nat)) : (sortT l).Pairwise fun a b => leT a b = true := List.pairwise_mergeSort leT_trans leT_total l
theorem S_inj {a b : List Nat} (h : S a = S b) : a = b := by
  rw [← S_cps a, h, S_cps]
theorem vals_each : ∀ {ks : List (List Nat)} {us : List Value}, EachIs (fun v (b : List Nat) => ∃ t, v = Value.str (S b) t) us ks → Vals (ks.map fun x => Tx x) us
  | _, _, .nil => .nil
  | _, _, .cons h t => .cons h (vals_each t)
end Lt
namespace Lt
open PySem PySem.Spec PyProof.Rows L2 Evl
open SX (S)
variable [ZI]
def zSetS (x : Dt) (R : DQ) : Prop := match x with
  | .str l => l.length ≤ 4000 ∧ R true (.lst ((setT (l.map fun c => [c])).map .str))
  | .lst ds => ∃ ks : List (List Nat), ds = ks.map .str ∧ ks.length ≤ 4000 ∧ R true (.lst ((setT ks).map .str))
  | .tup ds => ∃ ks : List (List Nat), ds = ks.map .str ∧ ks.length ≤ 4000 ∧ R true (.lst ((setT ks).map .str))
  | _ => False
theorem zSetS_s {l : List Nat} {R : DQ} : zSetS (.str l) R = (l.length ≤ 4000 ∧ R true (.lst ((setT (l.map fun c => [c])).map .str))) := rfl
theorem strs_inj : ∀ {a b : List (List Nat)}, a.map Dt.str = b.map .str → a = b
  | [], [], _ => rfl
  | [], _ :: _, h => by cases h
  | _ :: _, [], h => by cases h
  | x :: a, y :: b, h => by
    rw [List.map_cons, List.map_cons] at h
    injection h with h1 h2
    injection h1 with h1
    rw [h1, strs_inj h2]
theorem zSetS_l {ks : List (List Nat)} {R : DQ} : zSetS (.lst (ks.map .str)) R = (ks.length ≤ 4000 ∧ R true (.lst ((setT ks).map .str))) := propext ⟨fun ⟨k2, e, h⟩ => by rw [strs_inj e]; exact h, fun h => ⟨ks, rfl, h⟩⟩
theorem zSetS_t {ks : List (List Nat)} {R : DQ} : zSetS (.tup (ks.map .str)) R = (ks.length ≤ 4000 ∧ R true (.lst ((setT ks).map .str))) := propext ⟨fun ⟨k2, e, h⟩ => by rw [strs_inj e]; exact h, fun h => ⟨ks, rfl, h⟩⟩
theorem zSetS_t2 {ks ls : List (List Nat)} {R : DQ} : zSetS (.tup (ks.map .str ++ ls.map .str)) R = (ks.length + ls.length ≤ 4000 ∧ R true (.lst ((setT (ks ++ ls)).map .str))) := by
  rw [← List.map_append, zSetS_t, List.length_append]
def zCnt (x y : Dt) (R : DQ) : Prop := match x, y with
  | .tpk ds, .str a => ∃ ks : List (List Nat), ds = ks.map .str ∧ R false (.int (ks.count a : Nat))
  | _, _ => False
theorem zCnt_t {ks : List (List Nat)} {a : List Nat} {R : DQ} : zCnt (.tpk (ks.map .str)) (.str a) R = R false (.int (ks.count a : Nat)) := propext ⟨fun ⟨k2, e, h⟩ => by rw [strs_inj e]; exact h, fun h => ⟨ks, rfl, h⟩⟩
end Lt
namespace Lt
open PySem PySem.Spec PyProof.Rows L2 Evl
open SX (S)
variable [ZI]
open PySem.W (EachIs dataLe)
section
variable {P : Program} {w : World} {A : Around} {E : Value → Shared → Prop} {s : Shared}
def Gath (P : Program) (w : World) (s : Shared) (v : Value) (l : List (List Nat)) : Prop := ∀ (A : Around) (E : Value → Shared → Prop) (Q : List Value → Shared → Prop), A.handled = none →
  (∀ s' vs, (∀ b o, s.heap.get? b = some o → s'.heap.get? b = some o) → s'.gens = s.gens → s'.os = s.os → Vals (l.map fun x => Tx x) vs → Q vs s') → wpAny (model P w) A (collect v) Q E s
theorem each_vals : ∀ {ks : List (List Nat)} {us : List Value}, Vals (ks.map fun x => Tx x) us → EachIs (fun v (b : List Nat) => ∃ t, v = Value.str (S b) t) us ks
  | [], _, r => by cases r; exact .nil
  | k :: ks, _, r => by
    cases r with
    | cons h t => exact .cons h (each_vals t)
theorem sortedG {v : Value} {l : List (List Nat)} {Q : Value → Shared → Prop} (R : Gath P w s v l) (hh : A.handled = none) (hu : A.units + 10 < cLine) (hb : l.length ≤ sizeLine)
    (hQ : ∀ (h1 : Heap) (s' : Shared) (p : Addr) (vs : Array Value) (c : Nat), (∀ b o, s.heap.get? b = some o → h1.get? b = some o) → h1.objs.size ≤ p → (∀ b o, h1.get? b = some o → s'.heap.get? b = some o) → s'.gens = s.gens → s'.os = s.os → s'.heap.get? p = some (seqObj "list" vs c) →
      Vals ((sortT l).map fun x => Tx x) vs.toList → Q (.ref p) s') :
    wpAny (model P w) A (call (.builtin "sorted") [v]) Q E s := by
  refine Calls.call_function_entry kind_sorted plain_sorted entry_sorted (args_sorted1 _) ?_
  unfold Builtin.«sorted»
  refine wpAny_bind (m := checkCount "sorted" 1 1 _) (wpAny_pure (wpAny_bind (R A.in1 _ _ hh fun s1 vs k1 g1 o1 hv => ?_)))
  have hL : vs.length = l.length := by rw [← hv.length, List.length_map]
  refine wpAny_bind (wpAny_newList ?_ (by rw [hL]; exact hb))
  have hoL : (s1.heap.push (seqObj "list" vs.toArray 0)).get? s1.heap.objs.size = some (seqObj "list" vs.toArray 0) := Heap.get?_push_size _ rfl
  have e0 := each_vals hv
  refine wpAny_bind (wpAny_holding (PySem.W.list_sort_data (s := { s1 with heap := s1.heap.push (seqObj "list" vs.toArray 0) }) (bs := l) (enc := fun b => PyData.str (S b)) hoL e0 (e0.mono fun v b ⟨t, q⟩ => ⟨[], by rw [q]; exact .str _ _, by simp⟩)
    (PySem.W.AllAlike.of fun b b' => by simp [PySem.W.alike]) (PySem.W.Sortable.others fun b => ⟨by simp, by simp⟩) hb (fun b _ => by show _ + 1 + (PyData.str (S b)).depth < _; simp [PyData.depth]; omega) fun out ho2 eo => ?_))
  have eo2 : Vals ((sortT l).map fun x => Tx x) out := by
    have e : dataLe false (fun b : List Nat => PyData.str (S b)) = leT := by
      rw [PySem.W.dataLe_str]
      funext x y
      rw [S_cps, S_cps]; rfl
    rw [e] at eo
    exact vals_each eo
  obtain ⟨c, hc⟩ := sortedHeap_at (vs := vs) (out := out.toArray) hoL
  refine wpAny_pure ⟨_, rfl, hQ s1.heap _ s1.heap.objs.size out.toArray c k1 (Nat.le_refl _) (fun b u q => ?_) g1 o1 hc (by simpa using eo2)⟩
  have hlt := Heap.lt_size q
  show (sortedHeap (s1.heap.push (seqObj "list" vs.toArray 0)) s1.heap.objs.size vs out.toArray).get? b = some u
  rw [sortedHeap_old (Nat.ne_of_lt hlt) (by rw [Heap.size_push]; exact Nat.lt_succ_of_lt hlt)]
  exact Heap.get?_push_of_some _ q
theorem gath_seq {a : Addr} {T : String} {o : Obj} {items : Array Value} {n : Nat} {l : List (List Nat)} (hT : T = "list" ∨ T = "tuple") (ho : s.heap.get? a = some o) (hc : o.cls = .type T) (hd : o.data = .seq items n) (hv : Vals (l.map fun x => Tx x) items.toList) (hl : l.length ≤ sizeLine) : Gath P w s (.ref a) l :=
  fun A E Q hh h => wpAny_collect_seq a hT ho hc hd (fun h' k => h _ _ k rfl rfl hv) (by
    have := hv.length
    rw [List.length_map] at this
    have e2 : items.toList.length = items.size := Array.length_toList
    rw [← e2, ← this]; exact hl)
theorem gath_str {l : List Nat} {t : Tok} (hl : l.length ≤ sizeLine) : Gath P w s (.str (S l) t) (l.map fun c => [c]) :=
  fun A E Q hh h => wpAny_collect_str hh (S l) t (fun s' acc k g d o it => h _ _ k g o (by
    obtain ⟨h1, h2⟩ := it
    rw [S_size] at h1
    have key : ∀ (m : List Nat) (us : List Value), us.length = m.length → (∀ (i : Nat) (v : Value), us[i]? = some v → ∃ c u, m[i]? = some c ∧ v = .str ⟨#[c]⟩ u) → Vals ((m.map fun c => [c]).map fun x => Tx x) us := by
      intro m
      induction m with
      | nil => intro us hz _; rw [List.eq_nil_of_length_eq_zero hz]; exact .nil
      | cons c m ih =>
        intro us hz hv
        cases us with
        | nil => cases hz
        | cons u us =>
          obtain ⟨c', t', h1, rfl⟩ := hv 0 u rfl
          cases h1
          exact .cons ⟨t', rfl⟩ (ih us (by simpa using hz) fun i v hi => hv (i + 1) v hi)
    refine key l acc.toList (by rw [Array.length_toList]; exact h1) fun i v hi => ?_
    rw [Array.getElem?_toList] at hi
    obtain ⟨c, u, q1, q2⟩ := h2 i v hi
    exact ⟨c, u, by rw [← Array.getElem?_toList, S_cps] at q1; exact q1, q2⟩)) (by rw [S_size]; exact hl)
end
def rSrtT (K : PySem.W.Frag) : List V → Hp → VK → Prop := fun vs H Q => ∃ (x : V) (ks : List (List Nat)), vs = [x] ∧ ((∃ a, x = .ref a ∧ (SqL K H a (ks.map fun x => Tx x) ∨ SqT K H a (ks.map fun x => Tx x))) ∨ ∃ l : List Nat, x = Tx l ∧ ks = l.map fun c => [c]) ∧ ks.length ≤ sizeLine ∧
  ∀ p, H p = none → Q (.ref p) (upd H p (.lst ((sortT ks).map fun x => Tx x)))
theorem cr_srtT {X : Cx} (hc : X.calm = true) (hu : X.A.units + 64 < cLine) : CallR X (.builtin "sorted") (rSrtT X.K) := by
  intro pins s σ H vs us Q I r h
  obtain ⟨x, ks, rfl, hx, hl, q⟩ := h
  obtain ⟨v, rfl, rx⟩ := vals1 r
  have hG : Gath X.prog X.w s v ks := by
    rcases hx with ⟨a, rfl, hq⟩ | ⟨l, rfl, rfl⟩
    · cases rx
      rcases hq with hq | hq
      · obtain ⟨its, r, pl, hz⟩ := I.list hq
        obtain ⟨o, ho, hcl, n, hd⟩ := pl.isList
        exact gath_seq (.inl rfl) ho hcl hd (by simpa using r) hl
      · obtain ⟨its, r, pl, hz⟩ := I.tuple hq
        obtain ⟨o, ho, hcl, n, hd⟩ := pl
        exact gath_seq (.inr rfl) ho hcl hd (by simpa using r) hl
    · obtain ⟨t, rfl⟩ := rx
      exact gath_str (by simpa using hl)
  refine sortedG hG (I.ok.hd hc) (by omega) hl fun h1 s' p out c k hp k2 g o ho hv => ?_
  have I1 : Inv X pins σ H { s with heap := h1 } := I.kept (t' := s.toks) k
  have hn : H p = none := I1.hok.fresh hp
  have hlen : ((sortT ks).map fun x => Tx x).length ≤ sizeLine := by
    unfold sortT
    rw [List.length_map, List.length_mergeSort]; exact hl
  have J : Inv X pins σ (upd H p (.lst ((sortT ks).map fun x => Tx x))) { ({ s with heap := h1 } : Shared) with heap := s'.heap, gens := s'.gens, drawn := s'.drawn, toks := s'.toks } :=
    Inv.call (s := { s with heap := h1 }) (ch := []) I1 (Un.laid k2 hp hn) (I1.hok.laid k2 hp ⟨hlen, out.toList, c, hv, by simpa using ho⟩) (by rw [g]; exact I1.bare) (fun _ z => nomatch z)
  have e : s' = { s with heap := s'.heap, gens := s'.gens, drawn := s'.drawn, toks := s'.toks } := by
    cases s'
    cases s
    cases o
    rfl
  rw [e]
  exact ⟨.ref p, _, J, rfl, q p hn⟩
/-- sorted(x): a list of any data of one kind; texts in a tuple; a text's signs -/
theorem cr_sortA {X : Cx} {K : PySem.W.Frag} (hK : X.K = K) (hc : X.calm = true) (hu : X.A.units + 64 < cLine) : CallR X (.builtin "sorted") (fun xs H Q => rSortZ K xs H Q ∨ rSrtT K xs H Q) := hK ▸ (cr_sortZ hu).or (cr_srtT hc hu)
def zSortA (x : Dt) (R : DQ) : Prop := match fgt x with
  | .lst ds => zSort (.lst ds) R
  | .tup ds => ∃ ks : List (List Nat), ds = ks.map .str ∧ ks.length ≤ 16777216 ∧ R true (.lst ((sortT ks).map .str))
  | .str l => l.length ≤ 16777216 ∧ R true (.lst ((sortT (l.map fun c => [c])).map .str))
  | _ => False
theorem z_sortA0 {K : PySem.W.Frag} : UnZ (fun x H Q => rSortZ K [x] H Q ∨ rSrtT K [x] H Q) (fun x R => match x with
  | .lst ds => zSort (.lst ds) R
  | .tup ds => ∃ ks : List (List Nat), ds = ks.map .str ∧ ks.length ≤ 16777216 ∧ R true (.lst ((sortT ks).map .str))
  | .str l => l.length ≤ 16777216 ∧ R true (.lst ((sortT (l.map fun c => [c])).map .str))
  | _ => False) := by
  intro c L H x dx Q R h wx hr k
  have fin : ∀ (ks : List (List Nat)), R true (.lst ((sortT ks).map .str)) → ∀ p, H p = none → Q (.ref p) (upd H p (.lst ((sortT ks).map fun x => Tx x))) := fun ks hr p hp =>
    k _ _ _ _ hr (h.newL (FrAll.strs _) hp (Ex.new hp) upd_same)
  split at hr
  · exact .inl (z_sort c L H x _ Q R h wx hr k)
  · obtain ⟨ks, rfl, hl, hr⟩ := hr
    obtain ⟨p, xs, rfl, _, g1, g2⟩ := wx.tup h
    rw [FrAll.strs_inv g2] at g1
    exact .inr ⟨_, ks, rfl, .inl ⟨p, rfl, .inr (.inl g1)⟩, by rw [sizeLine_eq]; exact hl, fin _ hr⟩
  · rename_i l
    obtain ⟨hl, hr⟩ := hr
    obtain rfl := wx.scal_str h
    exact .inr ⟨_, l.map fun c => [c], rfl, .inr ⟨l, rfl, rfl⟩, by rw [List.length_map, sizeLine_eq]; exact hl, fin _ hr⟩
  · exact hr.elim
theorem z_sortA {K : PySem.W.Frag} : UnZ (fun x H Q => rSortZ K [x] H Q ∨ rSrtT K [x] H Q) zSortA := z_sortA0.fgt
theorem zSortA_t {ks : List (List Nat)} {R : DQ} : zSortA (.tup (ks.map .str)) R = (ks.length ≤ 16777216 ∧ R true (.lst ((sortT ks).map .str))) := propext ⟨fun ⟨k2, e, h⟩ => by rw [strs_inj e]; exact h, fun h => ⟨ks, rfl, h⟩⟩
theorem zSortA_k {ks : List (List Nat)} {R : DQ} : zSortA (.tpk (ks.map .str)) R = (ks.length ≤ 16777216 ∧ R true (.lst ((sortT ks).map .str))) := zSortA_t
theorem zSortA_t2 {ks ls : List (List Nat)} {R : DQ} : zSortA (.tup (ks.map .str ++ ls.map .str)) R = (ks.length + ls.length ≤ 16777216 ∧ R true (.lst ((sortT (ks ++ ls)).map .str))) := by
  rw [← List.map_append, zSortA_t, List.length_append]
theorem zSortA_s {l : List Nat} {R : DQ} : zSortA (.str l) R = (l.length ≤ 16777216 ∧ R true (.lst ((sortT (l.map fun c => [c])).map .str))) := rfl
theorem zs_strs {l : List (List Nat)} {R : DQ} (h : ∀ x ∈ l, okT x) (k : R true (.lst ((sortT l).map .str))) : zSortA (.lst (l.map .str)) R := zs_strs0 h k
end Lt
namespace Lt
open PySem PySem.Spec PyProof.Rows L2 Evl
open SX (S)
variable [ZI]
abbrev AL := List (List Nat × Dt)
def kyD (p : List Nat × Dt) : Key := .inr (S p.1)
/-- a dict, keyed by texts -/
def dicD (al : AL) : Dt := .dic (al.map kyD) (al.map (·.2))
def lkD (al : AL) (k : List Nat) : Option Dt := (al.find? fun p => decide (p.1 = k)).map (·.2)
def putD (al : AL) (k : List Nat) (d : Dt) : AL := if (al.any fun p => decide (p.1 = k)) = true then al.map (fun p => if p.1 = k then (p.1, d) else p) else al ++ [(k, d)]
section
variable {A : Addr → Prop} {H : Hp}
theorem S_eq {a b : List Nat} : ((.inr (S a) : Key) = .inr (S b)) ↔ a = b := ⟨fun h => by injection h with h; exact S_inj h, fun h => h ▸ rfl⟩
theorem lk_rel {k : List Nat} : ∀ {al : AL} {ws : List (Key × V)}, ws.map (·.1) = al.map kyD → FrAll A H (al.map (·.2)) (ws.map (·.2)) → (valV ws (.inr (S k)) = none ∧ lkD al k = none) ∨ ∃ v d, valV ws (.inr (S k)) = some v ∧ lkD al k = some d ∧ Fr A H d v
  | [], [], _, _ => .inl ⟨rfl, rfl⟩
  | [], _ :: _, h, _ => by cases h
  | _ :: _, [], h, _ => by cases h
  | p :: al, q :: ws, h, r => by
    rw [List.map_cons, List.map_cons] at h
    injection h with h1 h2
    obtain ⟨v, vs, e, r1, r2⟩ := r
    injection e with e1 e2
    subst e2
    by_cases c : p.1 = k
    · refine .inr ⟨q.2, p.2, valV_pos ?_, ?_, (show q.2 = v from e1) ▸ r1⟩
      · rw [h1]; show Sum.inr (S p.1) = _; rw [c]
      · unfold lkD; rw [List.find?_cons, decide_eq_true c]; rfl
    · have e3 : valV (q :: ws) (.inr (S k)) = valV ws (.inr (S k)) := valV_neg (by rw [h1]; exact fun z => c (S_eq.mp z))
      have e4 : lkD (p :: al) k = lkD al k := by unfold lkD; rw [List.find?_cons, decide_eq_false c]
      rw [e3, e4]
      exact lk_rel h2 r2
theorem any_rel {k : List Nat} : ∀ {al : AL} {ws : List (Key × V)}, ws.map (·.1) = al.map kyD → (ws.any fun kv => decide (kv.1 = .inr (S k))) = al.any fun p => decide (p.1 = k)
  | [], [], _ => rfl
  | [], _ :: _, h => by cases h
  | _ :: _, [], h => by cases h
  | p :: al, q :: ws, h => by
    rw [List.map_cons, List.map_cons] at h
    injection h with h1 h2
    rw [List.any_cons, List.any_cons, any_rel h2, h1]
    congr 1
    exact decide_eq_decide.mpr S_eq
theorem put_map {k : List Nat} {d : Dt} {v : V} (hv : Fr A H d v) : ∀ {al : AL} {ws : List (Key × V)}, ws.map (·.1) = al.map kyD → FrAll A H (al.map (·.2)) (ws.map (·.2)) →
    (ws.map fun kv => if kv.1 = .inr (S k) then (kv.1, v) else kv).map (·.1) = (al.map fun p => if p.1 = k then (p.1, d) else p).map kyD ∧
    FrAll A H ((al.map fun p => if p.1 = k then (p.1, d) else p).map (·.2)) ((ws.map fun kv => if kv.1 = .inr (S k) then (kv.1, v) else kv).map (·.2))
  | [], [], _, _ => ⟨rfl, .nil⟩
  | [], _ :: _, h, _ => by cases h
  | _ :: _, [], h, _ => by cases h
  | p :: al, q :: ws, h, r => by
    rw [List.map_cons, List.map_cons] at h
    injection h with h1 h2
    obtain ⟨w, vs, e, r1, r2⟩ := r
    injection e with e1 e2
    subst e2
    obtain ⟨i1, i2⟩ := put_map hv h2 r2
    have hk : (q.1 = .inr (S k)) ↔ p.1 = k := by rw [h1]; exact S_eq
    by_cases c : p.1 = k
    · have c2 := hk.mpr c
      simp only [List.map_cons, if_pos c, if_pos c2]
      exact ⟨by rw [i1, h1]; rfl, .cons hv i2⟩
    · have c2 := fun z => c (hk.mp z)
      simp only [List.map_cons, if_neg c, if_neg c2]
      exact ⟨by rw [i1, h1], .cons ((show q.2 = w from e1) ▸ r1) i2⟩
theorem put_rel {k : List Nat} {d : Dt} {v : V} {al : AL} {ws : List (Key × V)} (h : ws.map (·.1) = al.map kyD) (r : FrAll A H (al.map (·.2)) (ws.map (·.2))) (hv : Fr A H d v) :
    (putK ws (.inr (S k)) v).map (·.1) = (putD al k d).map kyD ∧ FrAll A H ((putD al k d).map (·.2)) ((putK ws (.inr (S k)) v).map (·.2)) := by
  unfold putK putD
  rw [any_rel h]
  split
  · exact put_map hv h r
  · refine ⟨?_, ?_⟩
    · rw [List.map_append, List.map_append, h]; rfl
    · rw [List.map_append, List.map_append]
      exact r.append (.cons hv .nil)
end
@[reducible] def pDnew : PTE := fun s Q => Q true (dicD []) s
theorem ce_dnew {c : Ctx} : CE c tDNewK pDnew := fun F s σ H Q R h hp k => fun p hn => k _ _ _ _ _ hp (.of_top h.1 (h.2.new (Ex.new hn) hn ⟨[], upd_same, rfl, rfl⟩))
def zDGet (x y d3 : Dt) (R : DQ) : Prop := match y with
  | .str k => ∃ al, x = dicD al ∧ R false ((lkD al k).getD d3)
  | _ => False
def isDic (x : Dt) : Prop := ∃ al, x = dicD al
theorem dicD_inj {a b : AL} (h : dicD a = dicD b) : a = b := by
  unfold dicD at h
  injection h with h1 h2
  induction a generalizing b with
  | nil => cases b with
    | nil => rfl
    | cons _ _ => cases h1
  | cons p a ih => cases b with
    | nil => cases h1
    | cons q b =>
      rw [List.map_cons, List.map_cons] at h1 h2
      injection h1 with e1 e2
      injection h2 with e3 e4
      rw [ih e2 e4]
      congr 1
      exact Prod.ext (S_eq.mp e1) e3
theorem isDic_d {al : AL} : isDic (dicD al) = True := propext ⟨fun _ => trivial, fun _ => ⟨al, rfl⟩⟩
theorem zDGet_d {al : AL} {k : List Nat} {d : Dt} {R : DQ} : zDGet (dicD al) (.str k) d R = R false ((lkD al k).getD d) := propext ⟨fun ⟨a2, e, h⟩ => by rw [dicD_inj e]; exact h, fun h => ⟨al, rfl, h⟩⟩
@[reducible] def pDget2 (oa ob : Opd) (pc : PTE) : PTE := fun s Q => pOpd oa s fun ga s1 => match ga s1 with
  | some x => isDic x ∧ pOpd ob s1 fun gb s2 => pc s2 fun _ d3 s3 => match ga s3, gb s3 with
    | some x, some y => zDGet x y d3 fun b d => Q b d s3
    | _, _ => False
  | none => False
theorem Wk.rdD {c : Ctx} {L : List Pc} {H : Hp} {v : V} {al : AL} (w : Wk L (dicD al) v) (h : RelL c L H) : ∃ (p : Addr) (ws : List (Key × V)), v = .ref p ∧ Rd H p (.dK ws) ∧ ws.map (·.1) = al.map kyD ∧ FrAll (Al c L) H (al.map (·.2)) (ws.map (·.2)) := w.dic h
theorem ce_dget2 {c : Ctx} {ta tb tc : TE} {oa ob : Opd} {pc : PTE} (ha : CO c ta oa) (hb : CO c tb ob) (hc : CE c tc pc) : CE c (tDGet2 ta tb tc) (pDget2 oa ob pc) := fun F s σ H Q R h hp k =>
  ha F s σ H _ _ h hp fun ga s1 v1 H1 F1 q1 h1 w1 => by
    split at q1
    · rename_i x ex
      obtain ⟨⟨al0, rfl⟩, q1⟩ := q1
      obtain ⟨p, ws, rfl, g1, _, _⟩ := (w1 s1 [] H1 _ ex h1).rdD h1.2
      refine ⟨p, rfl, .inl ⟨ws, g1⟩, hb _ s1 σ H1 _ _ h1 q1 fun gb s2 v2 H2 F2 q2 h2 w2 => hc _ s2 σ H2 _ _ h2 q2 fun b3 d3 s3 v3 H3 q3 h3 => ?_⟩
      have h3 := h3.mkfz
      split at q3
      · rename_i x y ex2 ey
        unfold zDGet at q3
        split at q3
        · rename_i kk
          obtain ⟨al, rfl, q3⟩ := q3
          have W1 := w1 s3 ((.fz d3, some v3) :: F2) H3 _ ex2 h3
          have W2 := w2 s3 [(.fz d3, some v3)] H3 _ ey h3
          obtain ⟨p2, ws2, e2, g2, g3, g4⟩ := W1.rdD h3.2
          cases e2
          obtain rfl := W2.scal_str h3.2
          refine ⟨_, .inl ⟨ws2, .inr (S kk), g2, rfl, rfl⟩, ?_⟩
          rcases lk_rel (k := kk) g3 g4 with ⟨n1, n2⟩ | ⟨v, d, n1, n2, r⟩
          · rw [n1]
            rw [n2] at q3
            refine k _ _ _ _ _ q3 ?_
            exact h3.sub (.cons_cons _ ((List.sublist_append_right _ _).trans (List.sublist_append_right _ _)))
          · rw [n1]
            rw [n2] at q3
            refine k _ _ _ _ _ q3 ?_
            have e : ((Sl.fz d3, some v3) :: (F2 ++ F1)) ++ F = (Sl.fz d3, some v3) :: (F2 ++ (F1 ++ F)) := by simp
            refine Rel.res (F2 := (.fz d3, some v3) :: (F2 ++ F1)) h3.1 ?_
            rw [e]
            exact h3.2.fr r
        · exact q3.elim
      · exact q3.elim
    · exact q1.elim
def zDPut (x : Dt) (k : List Nat) (d : Dt) (R : Dt → Prop) : Prop := ∃ al, x = dicD al ∧ al.length < 16777216 ∧ R (dicD (putD al k d))
theorem zDPut_d {al : AL} {k : List Nat} {d : Dt} {R : Dt → Prop} : zDPut (dicD al) k d R = (al.length < 16777216 ∧ R (dicD (putD al k d))) := propext ⟨fun ⟨a2, e, h⟩ => by rw [dicD_inj e]; exact h, fun h => ⟨al, rfl, h⟩⟩
@[reducible] def pDput (k : Nat) (pi pv : PTE) : PTS := fun P s => pv s fun _ dv s1 => match s1[k]? with
  | some (.ow x) => isDic x ∧ pi s1 fun _ e s2 => match s2[k]?, e with
    | some (.ow x), .str key => zDPut x key dv fun x' => P.nx (s2.set k (.ow x'))
    | _, _ => False
  | _ => False
theorem cs_dput {c : Ctx} {k : Nat} {ti tv : TE} {pi pv : PTE} (hi : CE c ti pi) (hv : CE c tv pv) : CS c (sDPut (tVar k) ti tv) (pDput k pi pv) := fun F s σ H D P hr hp kk =>
  hv F s σ H _ _ hr hp fun b1 dv s1 v1 H1 q1 h1 => by
    have h1 := h1.mkfz
    split at q1
    · rename_i x hs1
      obtain ⟨⟨al0, rfl⟩, q1⟩ := q1
      obtain ⟨p, hσ, _, _⟩ := h1.own hs1
      refine ⟨_, hσ, hi _ s1 σ H1 _ _ h1 q1 fun b2 e s2 v2 H2 q2 h2 => ?_⟩
      split at q2
      · rename_i x2 key hs2
        obtain ⟨al, rfl, hl, q2⟩ := q2
        obtain rfl := str_of h2
        have h3 := h2.drop
        obtain ⟨p2, hσ2, ⟨ws, g1, g2, g3⟩, ho⟩ := h3.own hs2
        rw [hσ] at hσ2
        cases hσ2
        have hd := h3.2.ok _ (List.mem_append_right _ (List.mem_cons_self ..))
        obtain ⟨n1, n2⟩ := put_rel (k := key) g2 g3 hd
        have hlen : ws.length = al.length := by
          have := congrArg List.length g2
          simpa using this
        refine ⟨p, _, rfl, .inl ⟨ws, .inr (S key), g1, rfl, by rw [sizeLine_eq, hlen]; exact hl, rfl⟩, ?_⟩
        refine kk.nx _ _ _ q2 ?_
        exact (h3.change (d' := dicD (putD al key dv)) (H' := upd H2 p (.dK (putK ws (.inr (S key)) v1))) hs2 hσ ExB.upd ⟨_, upd_same, n1, FrAll.exb ExB.upd ho n2⟩).drop
      · exact q2.elim
    · exact q1.elim
end Lt
namespace Lt
open PySem PySem.Spec PyProof.Rows L2 Evl
open SX (S)
variable [ZI]
open PySem.W (EachIs AllAlike Sortable dataLe)
def pairT (q : List Nat × Dt) : Dt := .tup [.str q.1, q.2]
end Lt
namespace Lt
open PySem PySem.Spec PyProof.Rows L2 Evl
open Sem (wp)
abbrev IsZipM (h : Heap) (z TI TO : Addr) (mk : Value) (fl : Bool) : Prop :=
  h.get? z = some { cls := .type "zip", dict := none, data := .fields #[mk, .bool fl, .bool false, .ref TI, .ref TO], slots := #[] }
def MkOk (mk : Value) : Prop := mk = .none ∨ ∃ n : Nat, mk = rawInt n
section
variable {prog : Program} {w : World} {A : Around} {E : Value → Shared → Prop} {s : Shared} {z TI TO i1 i2 : Addr} {fp1 fp2 : List Addr} {n1 n2 i : Nat} {P1 P2 : Nat → Value → Prop} {St1 St2 : Nat → Heap → Prop} {a1 a2 : Value}
/-- zip's state, whatever it has handed out -/
def ZSt (z TI TO i1 i2 : Addr) (St1 St2 : Nat → Heap → Prop) (i : Nat) (h : Heap) : Prop := ∃ mk fl, MkOk mk ∧ IsZipM h z TI TO mk fl ∧ IsTupOf2 h TI (.ref i1) (.ref i2) ∧ (∃ a1 a2, IsTupOf2 h TO a1 a2) ∧ St1 i h ∧ St2 i h
theorem ZSt.ty (st : ZSt z TI TO i1 i2 St1 St2 i s.heap) : s.TypeIs (.ref z) "zip" := by
  obtain ⟨mk, fl, hm, hz, _⟩ := st
  exact ⟨_, hz, rfl⟩
end
end Lt
namespace Lt
open PySem PySem.Spec PyProof.Rows L2 Evl
open SX (S)
variable [ZI]
section
variable {c : Ctx}
@[reducible] def pRetV (k : Nat) : PTS := fun P s => match s[k]? with
  | some (.fz d) => P.rt false d
  | some (.ow d) => P.rt true d
  | _ => False
theorem cs_retV {k : Nat} : CS c (tRet (tVar k)) (pRetV k) := fun F s σ H D P hr hp kk => by
  unfold pRetV at hp
  split at hp
  · rename_i d e
    obtain ⟨v, hv, h2⟩ := hr.get e
    exact ⟨v, hv, kk.rt _ _ _ _ hp (h2.top.sub (by exact List.cons_sublist_cons.mpr (List.nil_sublist _)))⟩
  · rename_i d e
    obtain ⟨b, hb, hz⟩ := zip_get hr.1 e
    have ho := hr.out hz
    cases b with
    | none => exact (ho.ok _ (List.mem_cons_self ..)).elim
    | some v => exact ⟨v, hb, kk.rt true d v H hp (ho.sub (by exact List.cons_sublist_cons.mpr (List.nil_sublist _)))⟩
  · exact hp.elim
end
end Lt
namespace Lt
open PySem PySem.Spec PyProof.Rows L2 Evl
open SX (S)
variable [ZI]
open PySem.W (EachIs dataLe)
def zDGk (x y : Dt) (R : DQ) : Prop := match y with
  | .str k => ∃ al d, x = dicD al ∧ lkD al k = some d ∧ R false d
  | _ => False
theorem zDGk_d {al : AL} {k : List Nat} {R : DQ} : zDGk (dicD al) (.str k) R = ∃ d, lkD al k = some d ∧ R false d := propext ⟨fun ⟨a2, d, e, h⟩ => by rw [dicD_inj e]; exact ⟨d, h⟩, fun ⟨d, h⟩ => ⟨al, d, rfl, h⟩⟩
def zDInk (neg : Bool) (y x : Dt) (R : DQ) : Prop := match y with
  | .str k => ∃ al, x = dicD al ∧ R false (.bl (neg ^^ (lkD al k).isSome))
  | _ => False
theorem zDInk_d {al : AL} {k : List Nat} {R : DQ} : zDInk false (.str k) (dicD al) R = R false (.bl (lkD al k).isSome) := propext ⟨fun ⟨a2, e, h⟩ => by rw [dicD_inj e]; simpa using h, fun h => ⟨al, rfl, by simpa using h⟩⟩
theorem zDInk_n {al : AL} {k : List Nat} {R : DQ} : zDInk true (.str k) (dicD al) R = R false (.bl (!(lkD al k).isSome)) := propext ⟨fun ⟨a2, e, h⟩ => by rw [dicD_inj e]; simpa using h, fun h => ⟨al, rfl, by simpa using h⟩⟩
theorem gath_dict {X : Cx} {pins : List (Addr × Obj)} {σ : L2.St} {H : Hp} {s : Shared} (I : L2.Inv X pins σ H s) {a : Addr} {ws : List (Key × V)} {ks : List (List Nat)} (hd : Rd H a (.dK ws)) (hk : ws.map (·.1) = ks.map fun x => Sum.inr (S x)) : Gath X.prog X.w s (.ref a) ks := by
  intro A E Q hh h
  obtain ⟨z, lo, vs, rel, dd⟩ := dk_rd I.hok hd
  obtain ⟨ep, hat⟩ := dd.dictAt
  have hkeys : vs.map (·.1) = ks.map fun x => Sum.inr (S x) := rel.keys.symm.trans hk
  have hl : vs.length = ks.length := by
    have e := congrArg List.length hkeys
    rw [List.length_map, List.length_map] at e
    exact e
  have h16 : vs.length ≤ sizeLine := by rw [← rel.length]; exact z
  refine PySem.W.kdu_collect (A := A) (PySem.W.kdl_dict (knd := mixKind X.prog X.w) (kvs := vs) (ep := ep) lo) hh hat h16 fun h' tk acc hk' hacc => ?_
  refine h { s with heap := h', toks := tk } acc.toList hk' rfl rfl ?_
  have hal : acc.toList.length = ks.length := by rw [Array.length_toList, hacc.1, hl]
  have key : ∀ (ks : List (List Nat)) (us : List Value), us.length = ks.length → (∀ (j : Nat) (v : Value), us[j]? = some v → ∃ x t, ks[j]? = some x ∧ v = .str (S x) t) → Vals (ks.map fun x => Tx x) us := by
    intro ks
    induction ks with
    | nil => intro us hz _; rw [List.eq_nil_of_length_eq_zero hz]; exact .nil
    | cons c m ih =>
      intro us hz hv
      cases us with
      | nil => cases hz
      | cons u us =>
        obtain ⟨c', t', h1, rfl⟩ := hv 0 u rfl
        cases h1
        exact .cons ⟨t', rfl⟩ (ih us (by simpa using hz) fun i v hi => hv (i + 1) v hi)
  refine key ks acc.toList hal fun j v e => ?_
  obtain ⟨k, x, e1, e2⟩ := hacc.2 j v (by rw [← Array.getElem?_toList]; exact e)
  have e3 : (vs.map (·.1))[j]? = some k := by rw [List.getElem?_map, e1]; rfl
  rw [hkeys, List.getElem?_map] at e3
  cases e4 : ks[j]? with
  | none => rw [e4] at e3; cases e3
  | some y =>
    rw [e4] at e3
    have e5 : Sum.inr (S y) = k := Option.some.inj e3
    subst e5
    obtain ⟨t, ev⟩ := Value.isStrOf_shape (x := S y) (v := v) e2
    exact ⟨y, t, rfl, ev⟩
def rSrtDk : List V → Hp → VK → Prop := fun vs H Q => ∃ (a : Addr) (ws : List (Key × V)) (ks : List (List Nat)), vs = [.ref a] ∧ Rd H a (.dK ws) ∧ ws.map (·.1) = ks.map (fun x => Sum.inr (S x)) ∧ ks.length ≤ sizeLine ∧
  ∀ p, H p = none → Q (.ref p) (upd H p (.lst ((sortT ks).map fun x => Tx x)))
theorem cr_sortDk {X : Cx} (hc : X.calm = true) (hu : X.A.units + 64 < cLine) : CallR X (.builtin "sorted") rSrtDk := by
  intro pins s σ H vs us Q I r h
  obtain ⟨a, ws, ks, rfl, hd, hk, hl, q⟩ := h
  obtain rfl := Vals.ref1 r
  refine sortedG (gath_dict I hd hk) (I.ok.hd hc) (by omega) hl fun h1 s' p out c k hp k2 g o ho hv => ?_
  have I1 : Inv X pins σ H { s with heap := h1 } := I.kept (t' := s.toks) k
  have hn : H p = none := I1.hok.fresh hp
  have hlen : ((sortT ks).map fun x => Tx x).length ≤ sizeLine := by
    unfold sortT
    rw [List.length_map, List.length_mergeSort]; exact hl
  have J : Inv X pins σ (upd H p (.lst ((sortT ks).map fun x => Tx x))) { ({ s with heap := h1 } : Shared) with heap := s'.heap, gens := s'.gens, drawn := s'.drawn, toks := s'.toks } :=
    Inv.call (s := { s with heap := h1 }) (ch := []) I1 (Un.laid k2 hp hn) (I1.hok.laid k2 hp ⟨hlen, out.toList, c, hv, by simpa using ho⟩) (by rw [g]; exact I1.bare) (fun _ z => nomatch z)
  have e : s' = { s with heap := s'.heap, gens := s'.gens, drawn := s'.drawn, toks := s'.toks } := by
    cases s'
    cases s
    cases o
    rfl
  rw [e]
  exact ⟨.ref p, _, J, rfl, q p hn⟩
def zSrtDk (x : Dt) (R : DQ) : Prop := ∃ al, x = dicD al ∧ al.length ≤ 16777216 ∧ R true (.lst ((sortT (al.map (·.1))).map .str))
theorem z_srtDk : UnZ (fun x H Q => rSrtDk [x] H Q) zSrtDk := by
  intro c L H x dx Q R h wx hr k
  obtain ⟨al, rfl, hl, hr⟩ := hr
  obtain ⟨p, ws, rfl, g1, g2, g3⟩ := wx.rdD h
  exact ⟨p, ws, al.map (·.1), rfl, g1, by rw [g2, List.map_map]; rfl, by rw [List.length_map, sizeLine_eq]; exact hl, fun q hq => k _ _ _ _ hr (h.newL (FrAll.strs _) hq (Ex.new hq) upd_same)⟩
theorem zSrtDk_d {al : AL} {R : DQ} : zSrtDk (dicD al) R = (al.length ≤ 16777216 ∧ R true (.lst ((sortT (al.map (·.1))).map .str))) := propext ⟨fun ⟨a2, e, h⟩ => by rw [dicD_inj e]; exact h, fun h => ⟨al, rfl, h⟩⟩
def dropD (al : AL) (k : List Nat) : AL := al.filter fun p => !decide (p.1 = k)
end Lt
namespace Lt
open PySem PySem.Spec PyProof.Rows L2 Evl
open SX (S)
variable [ZI]
def mergeD (al : AL) : AL := al.foldl (fun acc p => putD acc p.1 p.2) []
theorem S_list (l : List Nat) : (S l).cps.toList = l := by unfold S; simp
theorem S_length (l : List Nat) : (S l).length = l.length := by unfold S Str.length; simp
def zStw (x y : Dt) (R : DQ) : Prop := match x, y with
  | .str a, .str b => R false (.bl (decide (b <+: a)))
  | _, _ => False
def zEnw (x y : Dt) (R : DQ) : Prop := match x, y with
  | .str a, .str b => R false (.bl (decide (b <:+ a)))
  | _, _ => False
/-- a method of a text, of one argument -/
@[reducible] def pStr1 (z : Dt → Dt → DQ → Prop) (pa : PTE) (ob : Opd) : PTE := fun s Q => pa s fun _ d s1 => match d with
  | .str a => pOpd ob s1 fun gb s2 => match gb s2 with
    | some y => z (.str a) y fun b d => Q b d s2
    | none => False
  | _ => False
theorem ce_str1 {c : Ctx} {K : PySem.W.Frag} {r : V → List V → Hp → VK → Prop} {z : Dt → Dt → DQ → Prop} {ta tb : TE} {pa : PTE} {ob : Opd} (hz : OpZ (fun x y H Q => r x [y] H Q) z) (ha : CE c ta pa) (hb : CO c tb ob) : CE c (tBM K "str" r ta (tCons tb tNil)) (pStr1 z pa ob) := fun F s σ H Q R h hp k =>
  ha F s σ H _ _ h hp fun b d s1 v H1 q h1 => by
    split at q
    · rename_i a
      refine ⟨by rw [str_of h1]; exact ty_str, hb _ s1 σ H1 _ _ h1.mkfz q fun gb s2 v2 H2 F2 q2 h2 w2 => ?_⟩
      split at q2
      · rename_i y ey
        have hx : Wk (s2.zip σ ++ (F2 ++ ((.fz (.str a), some v) :: F))) (.str a) v := .inl (List.mem_append_right _ (List.mem_append_right _ (List.mem_cons_self ..)))
        refine hz c _ H2 v v2 (.str a) y Q _ h2.2 hx (w2 s2 [] H2 y ey h2) q2 fun b d v' H' rd hl => k _ _ _ _ _ rd ?_
        exact Rel.res (F2 := F2 ++ [(.fz (.str a), some v)]) h2.1 (by rw [List.append_assoc]; exact hl)
      · exact q2.elim
    · exact q.elim
theorem zStw_s {a b : List Nat} {R : DQ} : zStw (.str a) (.str b) R = R false (.bl (decide (b <+: a))) := rfl
theorem zEnw_s {a b : List Nat} {R : DQ} : zEnw (.str a) (.str b) R = R false (.bl (decide (b <:+ a))) := rfl
def zMax (x y : Dt) (R : DQ) : Prop := match x, y with
  | .int i, .int j => R false (.int (max i j))
  | _, _ => False
theorem zMax_i {i j : Int} {R : DQ} : zMax (.int i) (.int j) R = R false (.int (max i j)) := rfl
end Lt
namespace Lt
open PySem PySem.Spec PyProof.Rows L2 Evl
open SX (S)
variable [ZI]
/-- the same data: a dict locked or not -/
def Sm (H H' : Hp) : Prop := ∀ a o, H a = some o → H' a = some o ∨ ∃ od ws, (o = .dK ws ∧ H' a = some (.frz od (.dK ws))) ∨ (o = .frz od (.dK ws) ∧ H' a = some (.dK ws))
theorem Sm.same {H H' : Hp} (h : Sm H H') {a : Addr} {o : HO} (e : H a = some o) (n1 : ∀ ws, o ≠ .dK ws) (n2 : ∀ od ws, o ≠ .frz od (.dK ws)) : H' a = some o := by
  rcases h a o e with q | ⟨od, ws, ⟨q, _⟩ | ⟨q, _⟩⟩
  · exact q
  · exact absurd q (n1 ws)
  · exact absurd q (n2 od ws)
theorem Sm.tup {H H' : Hp} (h : Sm H H') {a : Addr} {xs : List V} (e : Rd H a (.tup xs)) : Rd H' a (.tup xs) := by
  rcases e with e | ⟨o, e⟩
  · exact .inl (h.same e (fun _ z => by cases z) fun _ _ z => by cases z)
  · exact .inr ⟨o, h.same e (fun _ z => by cases z) fun _ _ z => by cases z⟩
theorem Sm.dic {H H' : Hp} (h : Sm H H') {a : Addr} {ws : List (Key × V)} (e : Rd H a (.dK ws)) : Rd H' a (.dK ws) := by
  rcases e with e | ⟨o, e⟩
  · rcases h a _ e with q | ⟨od, ws', ⟨q, z⟩ | ⟨q, z⟩⟩
    · exact .inl q
    · cases q; exact .inr ⟨od, z⟩
    · cases q
  · rcases h a _ e with q | ⟨od, ws', ⟨q, z⟩ | ⟨q, z⟩⟩
    · exact .inr ⟨o, q⟩
    · cases q
    · cases q; exact .inl z
mutual
theorem Fr.sm {A A' : Addr → Prop} {H H' : Hp} (h : Sm H H') (ha : ∀ a o, A a → H a = some o → A' a) : ∀ {d : Dt} {v : V}, Fr A H d v → Fr A' H' d v
  | .non, _, r => r
  | .bl _, _, r => r
  | .int _, _, r => r
  | .str _, _, r => r
  | .val _, _, r => r
  | .ob _ _, _, r => ZI.ob_lock (fun a o z e => ⟨ha a o z e, (h a o e).imp_right fun ⟨od, ws, q⟩ => ⟨ws, q.elim (fun q => ⟨.inl (q.1 ▸ e), .inr ⟨od, q.2⟩⟩) fun q => ⟨.inr ⟨od, q.1 ▸ e⟩, .inl q.2⟩⟩⟩) r
  | .dice, _, r => by
    obtain ⟨a, e, q, hh⟩ := r
    exact ⟨a, e, ha _ _ q hh, h.same hh (fun _ z => by cases z) fun _ _ z => by cases z⟩
  | .tup ds, _, r => by
    obtain ⟨a, xs, e, q, hh, k⟩ := r
    have q2 : A' a := by
      rcases hh with hh | ⟨o, hh⟩
      · exact ha _ _ q hh
      · exact ha _ _ q hh
    exact ⟨a, xs, e, q2, h.tup hh, FrAll.sm h ha k⟩
  | .tpk ds, _, r => by
    obtain ⟨a, xs, o, e, q, hh, ho, k⟩ := r
    exact ⟨a, xs, o, e, ha _ _ q hh, h.same hh (fun _ z => by cases z) (fun _ _ z => by cases z), ho, FrAll.sm h ha k⟩
  | .lst ds, _, r => by
    obtain ⟨a, xs, e, q, hh, k⟩ := r
    exact ⟨a, xs, e, ha _ _ q hh, h.same hh (fun _ z => by cases z) (fun _ _ z => by cases z), FrAll.sm h ha k⟩
  | .dic ks ds, _, r => by
    obtain ⟨a, ws, e, q, hh, hk, k⟩ := r
    have q2 : A' a := by
      rcases hh with hh | ⟨o, hh⟩
      · exact ha _ _ q hh
      · exact ha _ _ q hh
    exact ⟨a, ws, e, q2, h.dic hh, hk, FrAll.sm h ha k⟩
theorem FrAll.sm {A A' : Addr → Prop} {H H' : Hp} (h : Sm H H') (ha : ∀ a o, A a → H a = some o → A' a) : ∀ {ds : List Dt} {vs : List V}, FrAll A H ds vs → FrAll A' H' ds vs
  | [], _, r => r
  | _ :: _, _, r => by
    obtain ⟨v, ws, e, r1, r2⟩ := r
    exact ⟨v, ws, e, Fr.sm h ha r1, FrAll.sm h ha r2⟩
end
theorem at_sm {A A' : Addr → Prop} {H H' : Hp} {d : Dt} {p : Addr} (r : At A H d p) (h : Sm H H') (ha : ∀ a o, A a → H a = some o → A' a) (kp : ∀ o, H p = some o → H' p = some o) : At A' H' d p := by
  cases d <;> try exact r.elim
  · obtain ⟨xs, h1, h2⟩ := r
    exact ⟨xs, kp _ h1, FrAll.sm h ha h2⟩
  · obtain ⟨xs, h1, h2, h3⟩ := r
    exact ⟨xs, kp _ h1, h2, FrAll.sm h ha h3⟩
theorem RelL.sm {c c' : Ctx} {L : List Pc} {H H' : Hp} (r : RelL c L H) (h : Sm H H') (hB : ∀ a, c.B a → c'.B a) (hx : ExN c'.B c'.H0 H') (hi : Iv c' H') (kp : ∀ p ∈ owns L, (∀ o, H p = some o → H' p = some o) ∧ (c.H0 p = none → c'.H0 p = none)) : RelL c' L H' := by
  have al : ∀ a o, Al c L a → H a = some o → Al c' L a := fun a _ q _ => ⟨hB _ q.1, q.2⟩
  refine ⟨r.nd, fun x hx => ?_, hx, hi⟩
  have h1 := r.ok x hx
  obtain ⟨s, v⟩ := x
  cases s with
  | un => trivial
  | fz d => cases v with
    | none => exact h1.elim
    | some v => exact Fr.sm h al h1
  | ow d => cases v with
    | none => exact h1.elim
    | some v =>
      cases v <;> try exact h1.elim
      rename_i p
      have hp : p ∈ owns L := mem_owns hx (List.mem_singleton.mpr rfl)
      exact ⟨(kp p hp).2 h1.1, at_sm h1.2 h al (kp p hp).1⟩
  | cl C => cases v with
    | none => exact h1.elim
    | some v =>
      refine ⟨h1.1, fun q hq => (kp q (mem_owns hx hq)).2 (h1.2.1 q hq), C.mono (fun a o ha ho hs => ⟨al a o ha ho, h.same ho (fun _ z => by rw [z] at hs; cases hs) fun _ _ z => by rw [z] at hs; cases hs⟩) (fun q hq => (kp q (mem_owns hx hq)).1) h1.2.2⟩
/-- the walk's place while d is locked -/
def lockC (c : Ctx) (d : Addr) (o : HO) : Ctx := ⟨upd c.H0 d o, c.B, fun a ha => c.nb a (by
  by_cases e : a = d
  · subst e; rw [upd_same] at ha; cases ha
  · rwa [upd_ne e] at ha), fun a => c.Zd a ∧ a ≠ d, fun a ⟨h1, h2⟩ => by rw [upd_ne h2]; exact c.zd a h1⟩
theorem Iv.lock {c : Ctx} {H H' : Hp} {d : Addr} {o u : HO} (h : Iv c H) (hd : H d = some u) (hz : zO u = false) (e : ∀ b v, b ≠ d → H b = some v → H' b = some v) : Iv (lockC c d o) H' := by
  obtain ⟨Hz, h1, h2⟩ := h
  refine ⟨Hz, h1, fun b v k => ?_⟩
  obtain ⟨g1, g2, g3⟩ := h2 b v k
  have ne : b ≠ d := fun z => by subst z; rw [hd] at g1; cases g1; rw [hz] at g2; cases g2
  refine ⟨e b v ne g1, g2, g3.elim (fun z => .inl ⟨z, ne⟩) fun z => .inr ?_⟩
  show upd c.H0 d o b = none
  rw [upd_ne ne]; exact z
theorem tupk_upd {B : Addr → Prop} {H : Hp} {d : Addr} {o u : HO} (hd : H d = some o) (ho : tupO o = false) : TupK B H B (upd H d u) := fun a v ha hv ht => ⟨ha, by
  have ne : a ≠ d := fun z => by
    subst z
    rw [hd] at hv
    cases hv
    rw [ho] at ht; cases ht
  rw [upd_ne ne]; exact hv⟩
theorem RelL.lock {c : Ctx} {L : List Pc} {H : Hp} {d : Addr} {ws : List (Key × V)} (r : RelL c L H) (hd : H d = some (.dK ws)) (hn : d ∉ owns L) (od : Obj) : RelL (lockC c d (.frz od (.dK ws))) L (upd H d (.frz od (.dK ws))) := by
  refine r.sm (fun a o e => ?_) (fun _ q => q) (fun a o e => ?_) (r.iv.lock hd rfl fun b v ne e => by rw [upd_ne ne]; exact e) fun p hp => ?_
  · by_cases q : a = d
    · subst q
      rw [hd] at e
      cases e
      exact .inr ⟨od, ws, .inl ⟨rfl, upd_same⟩⟩
    · exact .inl (by rw [upd_ne q]; exact e)
  · by_cases q : a = d
    · subst q
      have e2 : upd c.H0 a (.frz od (.dK ws)) a = some o := e
      rw [upd_same] at e2
      rw [upd_same]; exact ⟨o, e2, ZI.sp_rfl _⟩
    · have e2 : upd c.H0 d (.frz od (.dK ws)) a = some o := e
      rw [upd_ne q] at e2
      rw [upd_ne q]
      obtain ⟨o', g1, g2⟩ := r.old _ _ e2
      exact ⟨o', g1, ZI.sp_mono g2 (tupk_upd hd rfl)⟩
  · have q : p ≠ d := fun z => hn (z ▸ hp)
    exact ⟨fun o e => by rw [upd_ne q]; exact e, fun e => by show upd c.H0 d _ p = none; rw [upd_ne q]; exact e⟩
/-- where the slot holds a dict, it may be locked for a while -/
def atD (k : Nat) (s : PSt) (R : AL → Prop) : Prop := match s[k]? with
  | some (.fz x) => ∃ al, x = dicD al ∧ R al
  | _ => False
def pLockD (k : Nat) (pk : AL → PTS) : PTS := fun P s => atD k s fun al => pk al P s
/-- for .. in d.items(), for k in d -/
def pForD (ks : Bool) (gp : PTG) (ps : PTS) : AL → PTS := fun al P s => ForGoal gp ps P (if ks = true then al.map fun p => .str p.1 else al.map pairT) s
end Lt
namespace Lt
open PySem PySem.Spec PyProof.Rows L2 Evl
open SX (S)
variable [ZI]
/-- the loop's word -/
theorem forD_go {k : Nat} {ks : Bool} {gp : PTG} {ps : PTS} {P : PEnds} {s : PSt} {al : AL} (e : s[k]? = some (.fz (dicD al))) (h : ForGoal gp ps P (if ks = true then al.map fun p => .str p.1 else al.map pairT) s) : pLockD k (pForD ks gp ps) P s := by
  unfold pLockD atD
  rw [e]
  exact ⟨al, rfl, h⟩
def zInAdd (x y : Dt) (R : DQ) : Prop := match x, y with
  | .int i, .int j => R false (.int (i + j))
  | _, _ => False
def zInSub (x y : Dt) (R : DQ) : Prop := match x, y with
  | .int i, .int j => R false (.int (i - j))
  | _, _ => False
theorem zInAdd_i {i j : Int} {R : DQ} : zInAdd (.int i) (.int j) R = R false (.int (i + j)) := rfl
theorem zInSub_i {i j : Int} {R : DQ} : zInSub (.int i) (.int j) R = R false (.int (i - j)) := rfl
end Lt
namespace Lt
open PySem PySem.Spec PyProof.Rows L2 Evl
open SX (S)
variable [ZI]
abbrev TB := Addr → L2.St → Hp → (Hp → Prop) → Prop
end Lt
namespace Lt
open PySem PySem.Spec PyProof.Rows L2 Evl
open SX (S)
variable [ZI]
theorem ew_w (s : L2.St) (vs : List Nat) : L2.wipe (L2.wipe s vs) vs = L2.wipe s vs := by
  refine List.ext_getElem? fun j => ?_
  have key : ∀ (s : L2.St) (vs : List Nat), j ∈ vs → j < s.length → (L2.wipe s vs)[j]? = some none := by
    intro s vs
    induction vs with
    | nil => intro h; simp at h
    | cons v vs ih =>
      intro hj hs
      unfold L2.wipe
      by_cases e : v = j
      · subst e
        rw [List.getElem?_set_self (by rw [L2.wipe_length]; exact hs)]
      · rw [List.getElem?_set_ne e]
        exact ih ((List.mem_cons.mp hj).resolve_left fun z => e z.symm) hs
  by_cases hj : j ∈ vs
  · by_cases hs : j < s.length
    · rw [key _ vs hj (by rw [L2.wipe_length]; exact hs), key _ vs hj hs]
    · rw [List.getElem?_eq_none (by rw [L2.wipe_length, L2.wipe_length]; omega), List.getElem?_eq_none (by rw [L2.wipe_length]; omega)]
  · rw [L2.wipe_out hj]
theorem ew_s (s : PSt) (vs : List Nat) : wipeS (wipeS s vs) vs = wipeS s vs := by
  refine List.ext_getElem? fun j => ?_
  have key : ∀ (s : PSt) (vs : List Nat), j ∉ vs → (wipeS s vs)[j]? = s[j]? := by
    intro s vs
    induction vs with
    | nil => intro _; rfl
    | cons v vs ih =>
      intro hj
      unfold wipeS
      rw [List.getElem?_set_ne (fun e => hj (by rw [e]; exact List.mem_cons_self ..))]
      exact ih fun z => hj (List.mem_cons_of_mem _ z)
  by_cases hj : j ∈ vs
  · by_cases hs : j < s.length
    · rw [wipe_un _ vs j hj (by rw [wipeS_length]; exact hs), wipe_un _ vs j hj hs]
    · rw [List.getElem?_eq_none (by rw [wipeS_length, wipeS_length]; omega), List.getElem?_eq_none (by rw [wipeS_length]; omega)]
  · rw [key _ _ hj]
end Lt
namespace Lt
open PySem PySem.Spec PyProof.Rows L2 Evl
open SX (S)
variable [ZI]
def repT (n : Nat) (a : List Nat) : List Nat := (List.replicate n a).flatten
def zMulZ (x y : Dt) (R : DQ) : Prop := match x, y with
  | .int i, .int j => CMul i j ∧ R false (.int (i * j))
  | .str a, .int i => a.length ≤ 1000 ∧ 0 ≤ i ∧ i ≤ 1000 ∧ R false (.str (repT i.toNat a))
  | _, _ => False
theorem zMulZ_i {i j : Int} {R : DQ} : zMulZ (.int i) (.int j) R = (CMul i j ∧ R false (.int (i * j))) := rfl
theorem zMulZ_s {a : List Nat} {i : Int} {R : DQ} : zMulZ (.str a) (.int i) R = (a.length ≤ 1000 ∧ 0 ≤ i ∧ i ≤ 1000 ∧ R false (.str (repT i.toNat a))) := rfl
theorem repT_0 (a : List Nat) : repT 0 a = [] := rfl
theorem repT_1 (a : List Nat) : repT 1 a = a := by simp [repT]
/-- int(..) -/
def zIntT (x : Dt) (R : DQ) : Prop := match x with
  | .int i => R false (.int i)
  | .bl b => R false (.int (if b then 1 else 0))
  | _ => False
theorem zIntT_i {i : Int} {R : DQ} : zIntT (.int i) R = R false (.int i) := rfl
theorem zIntT_t {R : DQ} : zIntT (.bl true) R = R false (.int 1) := rfl
theorem zIntT_f {R : DQ} : zIntT (.bl false) R = R false (.int 0) := rfl
end Lt
namespace Lt
open PySem PySem.Spec PyProof.Rows L2 Evl
open SX (S)
variable [ZI]
def dPr (q : Nat × Nat) : Dt := .tup [.int q.1, .int q.2]
theorem toPs_map {α : Type} (f : α → Dt) : ∀ l : List α, toPs (l.map f) = l.map fun x => toP (f x)
  | [] => rfl
  | x :: l => by
    show toP (f x) :: toPs (l.map f) = _
    rw [toPs_map f l]; rfl
def freeM (row held : List Nat) : List Nat := (List.range row.length).filter fun i => decide (row.getD i 0 ∉ held)
def nameM (l : List Nat) : List Nat := if l.reverse < l then l.reverse else l
def subM (row : List Nat) (h t : Nat) : List Nat := (row.drop h).take (t + 1 - h)
def cutsM (row : List Nat) (sp : List Nat) : List (List Nat) := (sp.zip sp.tail).map fun q => nameM (subM row q.1 q.2)
def headM (row held : List Nat) : List Nat := match freeM row held with
  | [] => row
  | s :: _ => row.take (s + 1)
def tailM (row held : List Nat) : List Nat := match (freeM row held).getLast? with
  | none => []
  | some s => row.drop s
def midM (row held : List Nat) : List (List Nat) := sortT (cutsM row (freeM row held))
def thrD (row held : List Nat) : Dt := .tup [.str (headM row held), .tpk ((midM row held).map .str), .str (tailM row held)]
theorem freeM_lt {row held : List Nat} {i : Nat} (h : i ∈ freeM row held) : i < row.length ∧ row.getD i 0 ∉ held := by
  unfold freeM at h
  rw [List.mem_filter, List.mem_range] at h
  exact ⟨h.1, by simpa using h.2⟩
theorem nameM_mem {l : List Nat} {c : Nat} (hc : c ∈ nameM l) : c ∈ l := by
  unfold nameM at hc
  split at hc
  · simpa using hc
  · exact hc
def freeP (row held : List Nat) (i : Nat) : List Nat := (List.range i).filter fun j => decide (row.getD j 0 ∉ held)
theorem freeP_more (row held : List Nat) (i : Nat) : freeP row held (i + 1) = freeP row held i ++ if row.getD i 0 ∈ held then [] else [i] := by
  unfold freeP
  rw [List.range_succ, List.filter_append]
  by_cases c : row.getD i 0 ∈ held
  · rw [if_pos c]; simp [c]; simpa using c
  · rw [if_neg c]; simp; simpa using c
theorem freeP_lt {row held : List Nat} {i j : Nat} (h : j ∈ freeP row held i) : j < i := by
  unfold freeP at h
  simpa using (List.mem_filter.mp h).1
theorem cutsM_more (row sp : List Nat) (i : Nat) : cutsM row (sp ++ [i]) = cutsM row sp ++ match sp.getLast? with
  | none => []
  | some l => [nameM (subM row l i)] := by
  unfold cutsM
  have key : ∀ sp : List Nat, (sp ++ [i]).zip (sp ++ [i]).tail = sp.zip sp.tail ++ match sp.getLast? with | none => [] | some l => [(l, i)] := by
    intro sp
    induction sp with
    | nil => rfl
    | cons a sp ih =>
      cases sp with
      | nil => rfl
      | cons b sp =>
        have := ih
        simp only [List.cons_append, List.tail_cons, List.zip_cons_cons] at this ⊢
        rw [this]
        rfl
  rw [key, List.map_append]
  congr 1
  split <;> simp_all
theorem take_snoc {row : List Nat} {i c : Nat} (h : row[i]? = some c) : row.take i ++ [c] = row.take (i + 1) := (take_more h).symm
theorem toP_strs (l : List (List Nat)) : toPs (l.map .str) = l.map fun x => .str (S x) := toPs_map _ l
theorem alk_strs {n : Nat} {l : List (List Nat)} (h : l.length ≤ 100000) : alk (n + 2) (toP (.tpk (l.map .str))) = true := by
  show (decide ((toPs (l.map .str)).length ≤ 100000) && (toPs (l.map .str)).all (alk (n + 1))) = true
  rw [toP_strs, Bool.and_eq_true, decide_eq_true_eq, List.all_eq_true, List.length_map]
  exact ⟨h, fun d hd => by obtain ⟨x, _, rfl⟩ := List.mem_map.mp hd; rfl⟩
theorem sortT_mem {l : List (List Nat)} {x : List Nat} (h : x ∈ sortT l) : x ∈ l := List.mem_mergeSort.mp h
theorem sortT_len (l : List (List Nat)) : (sortT l).length = l.length := List.length_mergeSort l
end Lt
namespace Lt
open PySem PySem.Spec PyProof.Rows L2 Evl
open SX (S)
variable [ZI]
theorem turnsIn_len (row held : List Nat) (h j : Nat) : (turnsIn row held h j).length ≤ j := by
  unfold turnsIn
  split
  · simp
  · rw [List.length_map]
    exact Nat.le_trans (List.length_filter_le _ _) (by simp)
theorem turnsM_len (row held : List Nat) : (turnsM row held).length ≤ row.length * row.length := by
  have key : ∀ i, i ≤ row.length → ((List.range i).flatMap (turnsAt row held)).length ≤ i * row.length := by
    intro i
    induction i with
    | zero => intro _; simp
    | succ i ih =>
      intro hi
      rw [turns_more, List.length_append, Nat.succ_mul]
      have h1 := ih (by omega)
      have h2 := turnsIn_len row held i (row.length - (i + 1))
      show _ + (turnsIn row held i (row.length - (i + 1))).length ≤ _
      omega
  exact key _ (Nat.le_refl _)
/-- by turns at signs that are not held -/
inductive Stir (held : List Nat) (row : List Nat) : List Nat → Prop
  | refl : Stir held row row
  | step {r : List Nat} {h t : Nat} : Stir held row r → (h, t) ∈ turnsM r held → Stir held row (turnM r h t)
theorem Stir.len {held row r : List Nat} (s : Stir held row r) : r.length = row.length := by
  induction s with
  | refl => rfl
  | step s hm ih =>
    obtain ⟨h1, h2, _, _⟩ := turnsM_mem hm
    dsimp only at h1 h2
    rw [turnM_len (by omega) h2, ih]
theorem Stir.mem {held row r : List Nat} (s : Stir held row r) {c : Nat} (hc : c ∈ r) : c ∈ row := by
  induction s with
  | refl => exact hc
  | step s hm ih =>
    obtain ⟨h1, h2, _, _⟩ := turnsM_mem hm
    dsimp only at h1 h2
    exact ih (turnM_mem (by omega) hc)
def fapM (a b : List (List Nat)) : Option (List Nat) := (setT (a ++ b)).find? fun t => decide (a.count t ≠ b.count t)
def fapD (a b : List (List Nat)) : Dt := match fapM a b with
  | none => .non
  | some t => .tup [.str t, .int (a.count t : Nat), .int (b.count t : Nat)]
theorem find_step {l : List (List Nat)} {p : List Nat → Bool} {i : Nat} {x : List Nat} (hx : l[i]? = some x) (h : (l.take i).find? p = none) (hp : p x = true) : l.find? p = some x := by
  obtain ⟨hi, rfl⟩ := List.getElem?_eq_some_iff.mp hx
  have e : l.find? p = (l.take i ++ l.drop i).find? p := by rw [List.take_append_drop]
  rw [e, List.find?_append, h, List.drop_eq_getElem_cons hi, List.find?_cons, hp]
  rfl
theorem find_more {l : List (List Nat)} {p : List Nat → Bool} {i : Nat} {x : List Nat} (hx : l[i]? = some x) (h : (l.take i).find? p = none) (hp : p x = false) : (l.take (i + 1)).find? p = none := by
  rw [List.take_add_one, hx, List.find?_append, h]
  simp [hp]
/-- the least of a rising list -/
theorem find_rise {p : List Nat → Bool} {x : List Nat} : ∀ {l : List (List Nat)}, l.Pairwise (fun a b => leT a b = true) → (l.find? p = some x ↔ x ∈ l ∧ p x = true ∧ ∀ y ∈ l, p y = true → leT x y = true)
  | [], _ => by simp
  | a :: l, h => by
    obtain ⟨h1, h2⟩ := List.pairwise_cons.mp h
    rw [List.find?_cons]
    cases ha : p a with
    | true =>
      constructor
      · intro e
        cases e
        refine ⟨by simp, ha, fun y hy _ => ?_⟩
        rcases List.mem_cons.mp hy with rfl | hy
        · have := leT_total y y
          simpa using this
        · exact h1 y hy
      · rintro ⟨hx, _, hl⟩
        have h3 := hl a (by simp) ha
        rcases List.mem_cons.mp hx with rfl | hx
        · rfl
        · exact congrArg some (leT_anti (h1 x hx) h3)
    | false =>
      show l.find? p = some x ↔ _
      rw [find_rise h2]
      constructor
      · rintro ⟨a1, a2, a3⟩
        refine ⟨by simp [a1], a2, fun y hy hp => ?_⟩
        rcases List.mem_cons.mp hy with rfl | hy
        · rw [ha] at hp; cases hp
        · exact a3 y hy hp
      · rintro ⟨a1, a2, a3⟩
        rcases List.mem_cons.mp a1 with rfl | a1
        · rw [ha] at a2; cases a2
        · exact ⟨a1, a2, fun y hy hp => a3 y (by simp [hy]) hp⟩
theorem find_same {p : List Nat → Bool} {l m : List (List Nat)} (hl : l.Pairwise (fun a b => leT a b = true)) (hm : m.Pairwise (fun a b => leT a b = true)) (e : ∀ x, x ∈ l ↔ x ∈ m) : l.find? p = m.find? p := by
  cases h : m.find? p with
  | none =>
    rw [List.find?_eq_none] at h ⊢
    exact fun x hx => h x ((e x).mp hx)
  | some x =>
    obtain ⟨a1, a2, a3⟩ := (find_rise hm).mp h
    exact (find_rise hl).mpr ⟨(e x).mpr a1, a2, fun y hy hp => a3 y ((e y).mp hy) hp⟩
theorem permV {A : Addr → Prop} {H : Hp} : ∀ {es : List Dt} {xs ys : List V}, ys.Perm xs → FrAll A H es xs → ∃ fs, fs.Perm es ∧ FrAll A H fs ys := by
  intro es xs ys p
  induction p generalizing es with
  | nil => exact fun h => ⟨es, .refl _, h⟩
  | cons v p ih =>
    intro h
    cases es with
    | nil => cases h
    | cons d es =>
      obtain ⟨w, ws, e, h1, h2⟩ := h
      cases e
      obtain ⟨fs, q, r⟩ := ih h2
      exact ⟨d :: fs, q.cons d, .cons h1 r⟩
  | swap v w l =>
    intro h
    cases es with
    | nil => cases h
    | cons d es =>
      obtain ⟨_, _, e, h1, h2⟩ := h
      cases e
      cases es with
      | nil => cases h2
      | cons d2 es =>
        obtain ⟨_, _, e, h3, h4⟩ := h2
        cases e
        exact ⟨d2 :: d :: es, .swap .., .cons h3 (.cons h1 h4)⟩
  | trans p q ih1 ih2 =>
    intro h
    obtain ⟨fs, q1, r1⟩ := ih2 h
    obtain ⟨gs, q2, r2⟩ := ih1 r1
    exact ⟨gs, q2.trans q1, r2⟩
end Lt
namespace Lt
open PySem PySem.Spec PyProof.Rows L2 Evl
open SX (S)
variable [ZI]
/-- what stands since the last free sign; the cuts -/
abbrev ScS := Option (List Nat) × List (List Nat)
def scF (held : List Nat) (s : ScS) (c : Nat) : ScS :=
  if c ∈ held then (s.1.map (· ++ [c]), s.2) else (some [c], match s.1 with | none => s.2 | some m => s.2 ++ [m ++ [c]])
def scan (held l : List Nat) : ScS := l.foldl (scF held) (none, [])
theorem scF_pre (held : List Nat) (cs : List (List Nat)) (n : Option (List Nat)) (ds : List (List Nat)) (c : Nat) : scF held (n, cs ++ ds) c = ((scF held (n, ds) c).1, cs ++ (scF held (n, ds) c).2) := by
  unfold scF
  by_cases h : c ∈ held
  · rw [if_pos h, if_pos h]
  · rw [if_neg h, if_neg h]
    cases n <;> simp
theorem sc_pre (held : List Nat) (cs : List (List Nat)) : ∀ (l : List Nat) (n : Option (List Nat)) (ds : List (List Nat)), l.foldl (scF held) (n, cs ++ ds) = ((l.foldl (scF held) (n, ds)).1, cs ++ (l.foldl (scF held) (n, ds)).2)
  | [], _, _ => rfl
  | c :: l, n, ds => by
    rw [List.foldl_cons, scF_pre, sc_pre held cs l, List.foldl_cons]
theorem sc_from (held : List Nat) (cs : List (List Nat)) (l : List Nat) (n : Option (List Nat)) : l.foldl (scF held) (n, cs) = ((l.foldl (scF held) (n, [])).1, cs ++ (l.foldl (scF held) (n, [])).2) := by
  have := sc_pre held cs l n []
  rw [List.append_nil] at this
  exact this
/-- behind a free sign x: the cuts of what follows -/
def gapM (held : List Nat) (x : Nat) (l : List Nat) : List (List Nat) := (l.foldl (scF held) (some [x], [])).2
theorem sc_free {held : List Nat} {x : Nat} (hx : x ∉ held) (s : ScS) : (scF held s x).1 = some [x] := by
  unfold scF
  rw [if_neg hx]
theorem scan_at {held A R : List Nat} {x : Nat} (hx : x ∉ held) : scan held (A ++ x :: R) = ((R.foldl (scF held) (some [x], [])).1, (scan held (A ++ [x])).2 ++ gapM held x R) := by
  unfold scan gapM
  rw [List.foldl_append, List.foldl_append, List.foldl_cons, List.foldl_cons, List.foldl_nil]
  have e : scF held (A.foldl (scF held) (none, [])) x = (some [x], (scF held (A.foldl (scF held) (none, [])) x).2) := by
    rw [← sc_free hx (A.foldl (scF held) (none, []))]
  rw [e, sc_from]
theorem gap_at {held M R : List Nat} {x y : Nat} (hy : y ∉ held) : (M ++ y :: R).foldl (scF held) (some [x], []) = ((R.foldl (scF held) (some [y], [])).1, gapM held x (M ++ [y]) ++ gapM held y R) := by
  unfold gapM
  rw [List.foldl_append, List.foldl_append, List.foldl_cons, List.foldl_cons, List.foldl_nil]
  have e : scF held (M.foldl (scF held) (some [x], [])) y = (some [y], (scF held (M.foldl (scF held) (some [x], [])) y).2) := by
    rw [← sc_free hy (M.foldl (scF held) (some [x], []))]
  rw [e, sc_from]
theorem gap_split {held M R : List Nat} {x y : Nat} (hy : y ∉ held) : gapM held x (M ++ y :: R) = gapM held x (M ++ [y]) ++ gapM held y R := by
  have := congrArg (·.2) (gap_at (held := held) (M := M) (R := R) (x := x) hy)
  exact this
theorem sc_held {held : List Nat} : ∀ {M : List Nat} (_ : ∀ c ∈ M, c ∈ held) (m : List Nat) (cs : List (List Nat)), M.foldl (scF held) (some m, cs) = (some (m ++ M), cs)
  | [], _, m, cs => by simp
  | c :: M, h, m, cs => by
    have e : scF held (some m, cs) c = (some (m ++ [c]), cs) := by
      unfold scF
      rw [if_pos (h c (by simp))]
      rfl
    rw [List.foldl_cons, e, sc_held (fun d hd => h d (by simp [hd]))]
    simp
theorem gap_one {held M : List Nat} {x y : Nat} (h : ∀ c ∈ M, c ∈ held) (hy : y ∉ held) : gapM held x (M ++ [y]) = [x :: (M ++ [y])] := by
  unfold gapM
  rw [List.foldl_append, sc_held h, List.foldl_cons, List.foldl_nil]
  unfold scF
  rw [if_neg hy]
  simp
/-- the first free sign -/
theorem free_split (held : List Nat) : ∀ M : List Nat, (∀ c ∈ M, c ∈ held) ∨ ∃ M1 z M2, M = M1 ++ z :: M2 ∧ z ∉ held ∧ ∀ c ∈ M1, c ∈ held
  | [] => .inl fun c hc => by cases hc
  | c :: M => by
    by_cases h : c ∈ held
    · rcases free_split held M with k | ⟨M1, z, M2, rfl, h1, h2⟩
      · exact .inl fun d hd => (List.mem_cons.mp hd).elim (fun e => e ▸ h) (k d)
      · exact .inr ⟨c :: M1, z, M2, rfl, h1, fun d hd => (List.mem_cons.mp hd).elim (fun e => e ▸ h) (h2 d)⟩
    · exact .inr ⟨[], c, M, rfl, h, fun d hd => by cases hd⟩
theorem gap_rev {held : List Nat} : ∀ (n : Nat) {M : List Nat} {x y : Nat}, M.length ≤ n → x ∉ held → y ∉ held → gapM held y (M.reverse ++ [x]) = ((gapM held x (M ++ [y])).map List.reverse).reverse := by
  intro n
  induction n with
  | zero =>
    intro M x y hn hx hy
    obtain rfl : M = [] := List.eq_nil_of_length_eq_zero (by omega)
    rw [gap_one (by simp) hy]
    show gapM held y ([] ++ [x]) = _
    rw [gap_one (by simp) hx]
    rfl
  | succ n ih =>
    intro M x y hn hx hy
    rcases free_split held M with k | ⟨M1, z, M2, rfl, hz, k⟩
    · rw [gap_one k hy, gap_one (fun c hc => k c (List.mem_reverse.mp hc)) hx]
      simp
    · rw [List.length_append, List.length_cons] at hn
      rw [List.append_assoc, List.cons_append, gap_split hz, List.map_append, List.reverse_append, List.reverse_append, List.reverse_cons, List.append_assoc, List.append_assoc, List.singleton_append]
      rw [gap_split (M := M2.reverse) (y := z) hz, ih (M := M2) (by omega) hz hy, ih (M := M1) (by omega) hx hz]
theorem nameM_rev (l : List Nat) : nameM l.reverse = nameM l := by
  unfold nameM
  rw [List.reverse_reverse]
  by_cases h1 : l < l.reverse
  · rw [if_pos h1, if_neg (fun q => List.lt_irrefl l (List.lt_trans h1 q))]
  · by_cases h2 : l.reverse < l
    · rw [if_neg h1, if_pos h2]
    · rw [if_neg h1, if_neg h2]
      exact List.le_antisymm h1 h2
theorem gap_names {held M : List Nat} {x : Nat} (hx : x ∉ held) : ((gapM held x (M.reverse ++ [x])).map nameM).Perm ((gapM held x (M ++ [x])).map nameM) := by
  rw [gap_rev M.length (Nat.le_refl _) hx hx, List.map_reverse, List.map_map, show (nameM ∘ List.reverse) = nameM from funext nameM_rev]
  exact List.reverse_perm _
def hdM (held : List Nat) : List Nat → List Nat
  | [] => []
  | c :: l => if c ∈ held then c :: hdM held l else [c]
theorem freeM_cons (held : List Nat) (c : Nat) (row : List Nat) : freeM (c :: row) held = (if c ∈ held then [] else [0]) ++ (freeM row held).map (· + 1) := by
  unfold freeM
  rw [List.length_cons, List.range_succ_eq_map, List.filter_cons, List.filter_map]
  have e : ((fun i => decide ((c :: row).getD i 0 ∉ held)) ∘ Nat.succ) = fun i => decide (row.getD i 0 ∉ held) := by
    funext i
    simp [Function.comp]
  rw [e]
  by_cases h : c ∈ held
  · simp [h]
  · simp [h]
theorem headM_hd (held : List Nat) : ∀ row : List Nat, headM row held = hdM held row
  | [] => rfl
  | c :: row => by
    have ih := headM_hd held row
    unfold headM at ih ⊢
    rw [freeM_cons]
    unfold hdM
    by_cases h : c ∈ held
    · rw [if_pos h, if_pos h, List.nil_append, ← ih]
      cases freeM row held with
      | nil => rfl
      | cons s sp => rfl
    · rw [if_neg h, if_neg h]
      rfl
theorem hd_at {held A R : List Nat} {x : Nat} (hx : x ∉ held) : hdM held (A ++ x :: R) = hdM held (A ++ [x]) := by
  induction A with
  | nil => simp [hdM, hx]
  | cons c A ih =>
    rw [List.cons_append, List.cons_append]
    unfold hdM
    rw [ih]
theorem scan_take {held row : List Nat} : ∀ i, i ≤ row.length → (scan held (row.take i)).1 = ((freeP row held i).getLast?.map fun l => (row.drop l).take (i - l)) ∧ (scan held (row.take i)).2.map nameM = cutsM row (freeP row held i) := by
  intro i
  induction i with
  | zero =>
    intro _
    have e : freeP row held 0 = [] := rfl
    rw [List.take_zero, e]
    exact ⟨rfl, rfl⟩
  | succ i ih =>
    intro hi
    obtain ⟨h1, h2⟩ := ih (by omega)
    have hc : row[i]? = some row[i] := List.getElem?_eq_getElem (by omega)
    have gc : row.getD i 0 = row[i] := by rw [List.getD_eq_getElem?_getD, hc]; rfl
    rw [freeP_more, gc, ← take_snoc hc]
    have e : scan held (row.take i ++ [row[i]]) = scF held (scan held (row.take i)) row[i] := by
      unfold scan
      rw [List.foldl_append]; rfl
    rw [e]
    unfold scF
    by_cases h : row[i] ∈ held
    · rw [if_pos h, if_pos h, List.append_nil]
      refine ⟨?_, h2⟩
      show Option.map _ (scan held (row.take i)).1 = _
      rw [h1]
      cases hl : (freeP row held i).getLast? with
      | none => rfl
      | some l =>
        have hlt := freeP_lt (List.mem_of_getLast? hl)
        show some ((row.drop l).take (i - l) ++ [row[i]]) = some ((row.drop l).take (i + 1 - l))
        rw [show i + 1 - l = (i - l) + 1 by omega]
        exact congrArg some (take_snoc (by rw [List.getElem?_drop]; rw [show l + (i - l) = i by omega]; exact hc))
    · rw [if_neg h, if_neg h, cutsM_more]
      constructor
      · rw [List.getLast?_append]
        show some [row[i]] = some ((row.drop i).take (i + 1 - i))
        rw [List.drop_eq_getElem_cons (by omega), show i + 1 - i = 1 by omega]
        rfl
      · show List.map nameM (match (scan held (row.take i)).1 with | none => (scan held (row.take i)).2 | some m => (scan held (row.take i)).2 ++ [m ++ [row[i]]]) = _
        rw [h1, ← h2]
        cases hl : (freeP row held i).getLast? with
        | none => simp
        | some l =>
          have hlt := freeP_lt (List.mem_of_getLast? hl)
          show List.map nameM ((scan held (row.take i)).2 ++ [(row.drop l).take (i - l) ++ [row[i]]]) = _
          rw [List.map_append]
          congr 1
          show [nameM ((row.drop l).take (i - l) ++ [row[i]])] = [nameM (subM row l i)]
          unfold subM
          rw [show i + 1 - l = (i - l) + 1 by omega, ← take_snoc (by rw [List.getElem?_drop]; rw [show l + (i - l) = i by omega]; exact hc)]
theorem midM_scan (row held : List Nat) : midM row held = sortT ((scan held row).2.map nameM) := by
  have h := (scan_take (held := held) (row := row) row.length (Nat.le_refl _)).2
  rw [List.take_length] at h
  unfold midM
  rw [h]
  rfl
theorem tailM_scan (row held : List Nat) : tailM row held = (scan held row).1.getD [] := by
  have h := (scan_take (held := held) (row := row) row.length (Nat.le_refl _)).1
  rw [List.take_length] at h
  unfold tailM
  rw [h]
  show (match (freeP row held row.length).getLast? with | none => [] | some s => row.drop s) = _
  cases (freeP row held row.length).getLast? with
  | none => rfl
  | some l =>
    show row.drop l = (row.drop l).take (row.length - l)
    rw [List.take_of_length_le (by simp)]
/-- the middle of a row turned around between two equal free signs -/
theorem thr_turn {held A M B : List Nat} {x : Nat} (hx : x ∉ held) : headM (A ++ x :: (M.reverse ++ x :: B)) held = headM (A ++ x :: (M ++ x :: B)) held ∧ midM (A ++ x :: (M.reverse ++ x :: B)) held = midM (A ++ x :: (M ++ x :: B)) held ∧
    tailM (A ++ x :: (M.reverse ++ x :: B)) held = tailM (A ++ x :: (M ++ x :: B)) held := by
  refine ⟨?_, ?_, ?_⟩
  · rw [headM_hd, headM_hd, hd_at hx, hd_at (R := M ++ x :: B) hx]
  · rw [midM_scan, midM_scan, scan_at hx, scan_at (R := M ++ x :: B) hx]
    refine sortT_perm ?_
    show List.Perm (List.map nameM (_ ++ gapM held x (M.reverse ++ x :: B))) (List.map nameM (_ ++ gapM held x (M ++ x :: B)))
    rw [gap_split hx, gap_split (M := M) hx, List.map_append, List.map_append, List.map_append, List.map_append]
    exact List.Perm.append_left _ (List.Perm.append_right _ (gap_names hx))
  · rw [tailM_scan, tailM_scan, scan_at hx, scan_at (R := M ++ x :: B) hx, gap_at hx, gap_at (M := M) hx]
theorem turn_form {row : List Nat} {h t : Nat} (hh : h < t) (ht : t < row.length) (e : row.getD t 0 = row.getD h 0) : ∃ A M B x, row = A ++ x :: (M ++ x :: B) ∧ turnM row h t = A ++ x :: (M.reverse ++ x :: B) ∧ x = row.getD h 0 := by
  have e1 : row.getD h 0 = row[h] := by rw [List.getD_eq_getElem?_getD, List.getElem?_eq_getElem (by omega)]; rfl
  have e2 : row.getD t 0 = row[t] := by rw [List.getD_eq_getElem?_getD, List.getElem?_eq_getElem ht]; rfl
  have ex : row[t] = row[h] := by rw [← e2, e, e1]
  have s1 : (row.drop h).take (t + 1 - h) = row[h] :: ((row.drop (h + 1)).take (t - h - 1) ++ [row[h]]) := by
    rw [List.drop_eq_getElem_cons (by omega), show t + 1 - h = (t - h) + 1 by omega, List.take_succ_cons]
    congr 1
    rw [show t - h = (t - h - 1) + 1 by omega, ← take_snoc (c := row[h]) (by rw [List.getElem?_drop, show h + 1 + (t - h - 1) = t by omega, List.getElem?_eq_getElem ht, ex])]
    rfl
  refine ⟨row.take h, (row.drop (h + 1)).take (t - h - 1), row.drop (t + 1), row[h], ?_, ?_, e1.symm⟩
  · have e3 : row = row.take h ++ ((row.drop h).take (t + 1 - h) ++ (row.drop h).drop (t + 1 - h)) := by rw [List.take_append_drop, List.take_append_drop]
    rw [s1, List.drop_drop, show h + (t + 1 - h) = t + 1 by omega] at e3
    simpa using e3
  · unfold turnM
    rw [s1]
    simp
theorem thrD_turn {row held : List Nat} {h t : Nat} (hm : (h, t) ∈ turnsM row held) : thrD (turnM row h t) held = thrD row held := by
  obtain ⟨h1, h2, h3, h4⟩ := turnsM_mem hm
  dsimp only at h1 h2 h3 h4
  obtain ⟨A, M, B, x, e1, e2, e3⟩ := turn_form h1 h2 h4
  have hx : x ∉ held := by rw [e3]; exact h3
  obtain ⟨q1, q2, q3⟩ := thr_turn (held := held) (A := A) (M := M) (B := B) hx
  unfold thrD
  rw [e2, q1, q2, q3, ← e1]
theorem Stir.thr {held row r : List Nat} (s : Stir held row r) : thrD r held = thrD row held := by
  induction s with
  | refl => rfl
  | step s hm ih => rw [thrD_turn hm, ih]
theorem fapM_mem {a b : List (List Nat)} {t : List Nat} (h : fapM a b = some t) : t ∈ a ∨ t ∈ b := by
  have := List.mem_of_find?_eq_some h
  rw [setT_mem] at this
  exact List.mem_append.mp this
theorem zJoin_signs {m : List Nat} {R : DQ} (hm : m.length ≤ 16777216) (h : R false (.str m)) : zJoin (.str []) (.lst (m.map fun c => .str [c])) R := by
  have e : (m.map fun c => Dt.str [c]) = (m.map fun c => [c]).map .str := by rw [List.map_map]; rfl
  rw [e]
  refine zJoin_l (ls := m.map fun c => [c]) ?_ (by rw [joinL_signs]; exact h)
  have es : ∀ l : List Nat, ((l.map fun c => [c]).map (·.length)).sum = l.length := by
    intro l
    induction l with
    | nil => rfl
    | cons c l ih =>
      rw [List.map_cons, List.map_cons, List.sum_cons, ih, List.length_cons, List.length_cons, List.length_nil]
      omega
  rw [es, List.length_nil, Nat.mul_zero]
  exact hm
theorem cmpOks_signs {l : List Nat} {n : Nat} (h : okT l) : cmpOks (n + 1) (l.map fun c => .str [c]) = true := by
  have e : (l.map fun c => Dt.str [c]) = (l.map fun c => [c]).map .str := by rw [List.map_map]; rfl
  rw [e]
  refine cmpOks_strs fun x hx c hc => ?_
  obtain ⟨d, hd, rfl⟩ := List.mem_map.mp hx
  rw [List.mem_singleton.mp hc]
  exact h d hd
/-- a row as the program takes it -/
def RowOk (l : List Nat) : Prop := 1 ≤ l.length ∧ l.length ≤ 40 ∧ ∀ c ∈ l, c ∈ abcS
theorem RowOk.ok {l : List Nat} (h : RowOk l) : okT l := fun c hc => abc_lt (h.2.2 c hc)
theorem Stir.row {held row r : List Nat} (s : Stir held row r) (h : RowOk row) : RowOk r := ⟨by rw [s.len]; exact h.1, by rw [s.len]; exact h.2.1, fun c hc => h.2.2 c (s.mem hc)⟩
end Lt
namespace Lt
open PySem PySem.Spec PyProof.Rows L2 Evl
open SX (S)
variable [ZI]
theorem gap_none {G M : List Nat} {x : Nat} (h : ∀ c ∈ M, c ∈ G) : M.foldl (scF G) (some [x], []) = (some (x :: M), []) := by
  rw [sc_held h]; rfl
theorem thrD_inj {a b G : List Nat} (h : thrD a G = thrD b G) : headM a G = headM b G ∧ midM a G = midM b G ∧ tailM a G = tailM b G := by
  unfold thrD at h
  injection h with h
  injection h with h1 h
  injection h with h2 h
  injection h with h3 h
  injection h1 with h1
  injection h2 with h2
  injection h3 with h3
  exact ⟨h1, strs_inj h2, h3⟩
theorem thrD_of {a b G : List Nat} (h1 : headM a G = headM b G) (h2 : midM a G = midM b G) (h3 : tailM a G = tailM b G) : thrD a G = thrD b G := by
  unfold thrD
  rw [h1, h2, h3]
end Lt
namespace Lt
open PySem PySem.Spec PyProof.Rows L2 Evl
open SX (S)
variable [ZI]
def sortN (l : List Nat) : List Nat := l.mergeSort fun a b => decide (a ≤ b)
theorem sortT_signs (l : List Nat) : sortT (l.map fun c => [c]) = (sortN l).map fun c => [c] := by
  unfold sortT sortN
  rw [PySem.W.sort_maps (s := leT) (fun c : Nat => [c])]
  intro a _ b _
  unfold leT
  by_cases h : a ≤ b
  · have : ([a] : List Nat) ≤ [b] := by
      rw [← List.not_lt]
      intro q
      rw [List.cons_lt_cons_iff] at q
      rcases q with q | ⟨_, q⟩
      · omega
      · exact absurd q (List.lt_irrefl _)
    rw [decide_eq_true h, decide_eq_true this]
  · have : ¬ ([a] : List Nat) ≤ [b] := by
      intro q
      rw [← List.not_lt] at q
      exact q (by rw [List.cons_lt_cons_iff]; exact .inl (by omega))
    rw [decide_eq_false h, decide_eq_false this]
theorem sortN_mem {l : List Nat} {c : Nat} : c ∈ sortN l ↔ c ∈ l := List.mem_mergeSort
theorem sortN_len (l : List Nat) : (sortN l).length = l.length := List.length_mergeSort l
theorem zSort_signs {l : List Nat} {R : DQ} (h : okT l) (k : R true (.lst ((sortN l).map fun c => .str [c]))) : zSortA (.lst (l.map fun c => .str [c])) R := by
  have e : (l.map fun c => Dt.str [c]) = (l.map fun c => [c]).map .str := by rw [List.map_map]; rfl
  rw [e]
  refine zs_strs (fun x hx c hc => ?_) ?_
  · obtain ⟨d, hd, rfl⟩ := List.mem_map.mp hx
    rw [List.mem_singleton.mp hc]
    exact h d hd
  · rw [sortT_signs, List.map_map]
    exact k
def pairM (a b : Nat) : List Nat := if a ≤ b then [a, b] else [b, a]
def incD (al : AL) (k : List Nat) : AL := putD al k (.int ((match lkD al k with | some (.int i) => i | _ => 0) + 1))
def pairsM (row : List Nat) : AL := (row.zip row.tail).foldl (fun al q => incD al (pairM q.1 q.2)) []
def IntD (al : AL) : Prop := ∀ p ∈ al, ∃ n : Nat, p.2 = .int (n : Int)
theorem lkD_mem {al : AL} {k : List Nat} {d : Dt} (h : lkD al k = some d) : (k, d) ∈ al := by
  unfold lkD at h
  cases hf : al.find? fun p => decide (p.1 = k) with
  | none => rw [hf] at h; cases h
  | some p =>
    rw [hf] at h
    cases h
    have h1 := List.mem_of_find?_eq_some hf
    have h2 := List.find?_some hf
    rw [← of_decide_eq_true h2]
    exact h1
theorem putD_len (al : AL) (k : List Nat) (d : Dt) : (putD al k d).length ≤ al.length + 1 := by
  unfold putD
  split
  · rw [List.length_map]; omega
  · rw [List.length_append]; exact Nat.le_refl _
theorem putD_mem {al : AL} {k : List Nat} {d : Dt} {p : List Nat × Dt} (h : p ∈ putD al k d) : p ∈ al ∨ p = (k, d) := by
  unfold putD at h
  split at h
  · obtain ⟨q, hq, e⟩ := List.mem_map.mp h
    by_cases c : q.1 = k
    · rw [if_pos c] at e
      exact .inr (by rw [← e, c])
    · rw [if_neg c] at e
      exact .inl (e ▸ hq)
  · rcases List.mem_append.mp h with h | h
    · exact .inl h
    · exact .inr (List.mem_singleton.mp h)
def cntD (al : AL) (k : List Nat) : Nat := match lkD al k with
  | some (.int i) => i.toNat
  | _ => 0
theorem cntD_get {al : AL} (h : IntD al) (k : List Nat) : (lkD al k).getD (.int 0) = .int (cntD al k : Int) := by
  unfold cntD
  cases hl : lkD al k with
  | none => rfl
  | some d =>
    obtain ⟨n, hn⟩ := h _ (lkD_mem hl)
    have : d = .int (n : Int) := hn
    subst this
    rfl
theorem incD_eq {al : AL} (h : IntD al) (k : List Nat) : incD al k = putD al k (.int ((cntD al k : Int) + 1)) := by
  unfold incD cntD
  cases hl : lkD al k with
  | none => rfl
  | some d =>
    obtain ⟨n, hn⟩ := h _ (lkD_mem hl)
    have : d = .int (n : Int) := hn
    subst this
    rfl
theorem incD_int {al : AL} (h : IntD al) (k : List Nat) : IntD (incD al k) := by
  rw [incD_eq h]
  intro p hp
  rcases putD_mem hp with hp | rfl
  · exact h p hp
  · exact ⟨cntD al k + 1, by simp⟩
theorem fold_int {α : Type} (f : α → List Nat) : ∀ (l : List α) (al : AL), IntD al → IntD (l.foldl (fun al q => incD al (f q)) al) ∧ (l.foldl (fun al q => incD al (f q)) al).length ≤ al.length + l.length
  | [], al, h => ⟨h, Nat.le_refl _⟩
  | q :: l, al, h => by
    obtain ⟨h1, h2⟩ := fold_int f l (incD al (f q)) (incD_int h _)
    refine ⟨h1, Nat.le_trans h2 ?_⟩
    have h3 : (incD al (f q)).length ≤ al.length + 1 := by rw [incD_eq h]; exact putD_len ..
    rw [List.length_cons]
    omega
theorem intD_nil : IntD [] := fun p hp => by cases hp
end Lt
namespace Lt
open PySem PySem.Spec PyProof.Rows L2 Evl
open SX (S)
variable [ZI]
def adjM (l : List Nat) : List (List Nat) := (l.zip l.tail).map fun q => pairM q.1 q.2
theorem pairM_comm (a b : Nat) : pairM a b = pairM b a := by
  unfold pairM
  by_cases h : a ≤ b
  · by_cases k : b ≤ a
    · have : a = b := by omega
      subst this; rfl
    · rw [if_pos h, if_neg k]
  · rw [if_neg h, if_pos (by omega)]
theorem adjM_cons (a b : Nat) (l : List Nat) : adjM (a :: b :: l) = pairM a b :: adjM (b :: l) := rfl
theorem adjM_app : ∀ (l : List Nat) (x : Nat) (r : List Nat), adjM (l ++ x :: r) = adjM (l ++ [x]) ++ adjM (x :: r)
  | [], x, r => rfl
  | [a], x, r => rfl
  | a :: b :: l, x, r => by
    have h := adjM_app (b :: l) x r
    rw [List.cons_append, List.cons_append] at h
    rw [List.cons_append, List.cons_append, List.cons_append, List.cons_append, adjM_cons, adjM_cons, h]
    rfl
theorem adjM_rev : ∀ l : List Nat, adjM l.reverse = (adjM l).reverse
  | [] => rfl
  | [a] => rfl
  | a :: b :: l => by
    have h := adjM_rev (b :: l)
    rw [adjM_cons, List.reverse_cons (a := pairM a b), ← h, List.reverse_cons (a := a), List.reverse_cons (a := b), List.append_assoc, List.singleton_append, adjM_app l.reverse b [a]]
    congr 1
    show [pairM b a] = [pairM a b]
    rw [pairM_comm]
theorem adjM_turn {row held : List Nat} {h t : Nat} (hm : (h, t) ∈ turnsM row held) : (adjM (turnM row h t)).Perm (adjM row) := by
  obtain ⟨h1, h2, h3, h4⟩ := turnsM_mem hm
  dsimp only at h1 h2 h3 h4
  obtain ⟨A, M, B, x, e1, e2, e3⟩ := turn_form h1 h2 h4
  rw [e2, e1, adjM_app, adjM_app A x (M ++ x :: B)]
  refine List.Perm.append_left _ ?_
  have k1 := adjM_app (x :: M.reverse) x B
  have k2 := adjM_app (x :: M) x B
  rw [List.cons_append, List.cons_append] at k1 k2
  rw [k1, k2]
  refine List.Perm.append_right _ ?_
  have e : x :: (M.reverse ++ [x]) = (x :: (M ++ [x])).reverse := by simp
  rw [e, adjM_rev]
  exact List.reverse_perm _
theorem Stir.adj {held row r : List Nat} (s : Stir held row r) : (adjM r).Perm (adjM row) := by
  induction s with
  | refl => exact .refl _
  | step s hm ih => exact (adjM_turn hm).trans ih
theorem foldl_map' {α β γ : Type} (f : γ → β → γ) (g : α → β) : ∀ (l : List α) (c : γ), l.foldl (fun c a => f c (g a)) c = (l.map g).foldl f c
  | [], _ => rfl
  | a :: l, c => foldl_map' f g l (f c (g a))
theorem pairsM_adj (row : List Nat) : pairsM row = (adjM row).foldl incD [] := foldl_map' incD (fun q : Nat × Nat => pairM q.1 q.2) _ _
theorem lkD_cons {p : List Nat × Dt} {al : AL} {k : List Nat} : lkD (p :: al) k = if p.1 = k then some p.2 else lkD al k := by
  unfold lkD
  rw [List.find?_cons]
  by_cases c : p.1 = k
  · rw [decide_eq_true c, if_pos c]; rfl
  · rw [decide_eq_false c, if_neg c]
theorem lkD_none {al : AL} {k : List Nat} : lkD al k = none ↔ ∀ p ∈ al, p.1 ≠ k := by
  unfold lkD
  rw [Option.map_eq_none_iff, List.find?_eq_none]
  exact ⟨fun h p hp e => h p hp (decide_eq_true e), fun h p hp e => h p hp (of_decide_eq_true e)⟩
theorem lkD_app {k : List Nat} : ∀ {al bl : AL}, lkD (al ++ bl) k = match lkD al k with | some d => some d | none => lkD bl k
  | [], bl => rfl
  | p :: al, bl => by
    rw [List.cons_append, lkD_cons, lkD_cons]
    by_cases c : p.1 = k
    · rw [if_pos c, if_pos c]
    · rw [if_neg c, if_neg c, lkD_app]
theorem lkD_upd {k k' : List Nat} {d : Dt} : ∀ {al : AL}, (al.any fun p => decide (p.1 = k)) = true → lkD (al.map fun p => if p.1 = k then (p.1, d) else p) k' = if k = k' then some d else lkD al k'
  | [], h => by cases h
  | p :: al, h => by
    rw [List.map_cons, lkD_cons, lkD_cons]
    by_cases c : p.1 = k
    · rw [if_pos c]
      by_cases e : k = k'
      · rw [if_pos e, if_pos (c.trans e)]
      · rw [if_neg e, if_neg (fun q => e (c.symm.trans q)), if_neg (fun q => e (c.symm.trans q))]
        have key : ∀ al : AL, lkD (al.map fun p => if p.1 = k then (p.1, d) else p) k' = lkD al k' := by
          intro al
          induction al with
          | nil => rfl
          | cons q al ih =>
            rw [List.map_cons, lkD_cons, lkD_cons, ih]
            by_cases c2 : q.1 = k
            · rw [if_pos c2, if_neg (fun z => e (c2.symm.trans z)), if_neg (fun z => e (c2.symm.trans z))]
            · rw [if_neg c2]
        exact key al
    · rw [if_neg c]
      have h2 : (al.any fun p => decide (p.1 = k)) = true := by
        rw [List.any_cons, decide_eq_false c, Bool.false_or] at h
        exact h
      rw [lkD_upd h2]
      by_cases e : k = k'
      · rw [if_pos e, if_neg (fun q => c (q.trans e.symm)), if_pos e]
      · rw [if_neg e, if_neg e]
theorem lkD_put {al : AL} {k k' : List Nat} {d : Dt} : lkD (putD al k d) k' = if k = k' then some d else lkD al k' := by
  unfold putD
  by_cases h : (al.any fun p => decide (p.1 = k)) = true
  · rw [if_pos h, lkD_upd h]
  · rw [if_neg h, lkD_app, lkD_cons]
    by_cases e : k = k'
    · subst e
      have : lkD al k = none := lkD_none.mpr fun p hp e => h (List.any_eq_true.mpr ⟨p, hp, decide_eq_true e⟩)
      rw [this]
      simp
    · rw [if_neg e, if_neg e]
      cases lkD al k' <;> rfl
theorem putD_keys {al : AL} {k : List Nat} {d : Dt} (h : (al.map (·.1)).Nodup) : ((putD al k d).map (·.1)).Nodup := by
  unfold putD
  split
  · rw [List.map_map]
    have : (al.map ((fun p : List Nat × Dt => p.1) ∘ fun p => if p.1 = k then (p.1, d) else p)) = al.map (·.1) := List.map_congr_left fun p _ => by
      show (if p.1 = k then (p.1, d) else p).1 = p.1
      split <;> rfl
    rw [this]; exact h
  · rename_i hn
    rw [List.map_append, List.nodup_append]
    refine ⟨h, by simp, fun x hx y hy e => ?_⟩
    obtain ⟨p, hp, rfl⟩ := List.mem_map.mp hx
    have hy : y = k := by simpa using hy
    exact hn (List.any_eq_true.mpr ⟨p, hp, decide_eq_true (e.trans hy)⟩)
end Lt
namespace Lt
open PySem PySem.Spec PyProof.Rows L2 Evl
open SX (S)
variable [ZI]
def rawM (row sp : List Nat) : List (List Nat) := (sp.zip sp.tail).map fun q => subM row q.1 q.2
def thM (row held : List Nat) : List (List Nat) := rawM row (freeM row held)
theorem cutsM_raw (row sp : List Nat) : cutsM row sp = (rawM row sp).map nameM := by
  unfold cutsM rawM
  rw [List.map_map]; rfl
theorem zip_snoc : ∀ (sp : List Nat) (i : Nat), (sp ++ [i]).zip (sp ++ [i]).tail = sp.zip sp.tail ++ match sp.getLast? with | none => [] | some l => [(l, i)]
  | [], i => rfl
  | [a], i => rfl
  | a :: b :: sp, i => by
    have := zip_snoc (b :: sp) i
    simp only [List.cons_append, List.tail_cons, List.zip_cons_cons] at this ⊢
    rw [this]
    rfl
theorem rawM_more (row sp : List Nat) (i : Nat) : rawM row (sp ++ [i]) = rawM row sp ++ match sp.getLast? with
  | none => []
  | some l => [subM row l i] := by
  unfold rawM
  rw [zip_snoc, List.map_append]
  congr 1
  split <;> simp_all
theorem scan_raw {held row : List Nat} : ∀ i, i ≤ row.length → (scan held (row.take i)).2 = rawM row (freeP row held i) := by
  intro i
  induction i with
  | zero => intro _; rw [List.take_zero]; rfl
  | succ i ih =>
    intro hi
    have h1 := (scan_take (held := held) (row := row) i (by omega)).1
    have h2 := ih (by omega)
    have hc : row[i]? = some row[i] := List.getElem?_eq_getElem (by omega)
    have gc : row.getD i 0 = row[i] := by rw [List.getD_eq_getElem?_getD, hc]; rfl
    rw [freeP_more, gc, ← take_snoc hc]
    have e : scan held (row.take i ++ [row[i]]) = scF held (scan held (row.take i)) row[i] := by
      unfold scan
      rw [List.foldl_append]; rfl
    rw [e]
    unfold scF
    by_cases h : row[i] ∈ held
    · rw [if_pos h, if_pos h, List.append_nil]
      exact h2
    · rw [if_neg h, if_neg h, rawM_more]
      show (match (scan held (row.take i)).1 with | none => (scan held (row.take i)).2 | some m => (scan held (row.take i)).2 ++ [m ++ [row[i]]]) = _
      rw [h1, ← h2]
      cases hl : (freeP row held i).getLast? with
      | none => simp
      | some l =>
        have hlt := freeP_lt (List.mem_of_getLast? hl)
        show (scan held (row.take i)).2 ++ [(row.drop l).take (i - l) ++ [row[i]]] = _
        congr 1
        show [(row.drop l).take (i - l) ++ [row[i]]] = [subM row l i]
        unfold subM
        rw [show i + 1 - l = (i - l) + 1 by omega, ← take_snoc (by rw [List.getElem?_drop]; rw [show l + (i - l) = i by omega]; exact hc)]
theorem thM_scan (row held : List Nat) : thM row held = (scan held row).2 := by
  have h := scan_raw (held := held) (row := row) row.length (Nat.le_refl _)
  rw [List.take_length] at h
  rw [h]; rfl
theorem rawM_len (row sp : List Nat) : (rawM row sp).length = sp.length - 1 := by
  unfold rawM
  rw [List.length_map, List.length_zip, List.length_tail]
  omega
theorem freeM_P (row held : List Nat) : freeM row held = freeP row held row.length := rfl
theorem freeP_take {row held : List Nat} {i n : Nat} (h : i ≤ n) (hn : n ≤ row.length) : freeP (row.take n) held i = freeP row held i := by
  unfold freeP
  refine List.filter_congr fun j hj => ?_
  rw [List.mem_range] at hj
  have : (row.take n).getD j 0 = row.getD j 0 := by
    rw [List.getD_eq_getElem?_getD, List.getD_eq_getElem?_getD, List.getElem?_take, if_pos (by omega)]
  rw [this]
theorem freeP_pre (row held : List Nat) : ∀ (n i : Nat), i ≤ n → ∃ r, freeP row held n = freeP row held i ++ r ∧ ∀ x ∈ r, i ≤ x := by
  intro n
  induction n with
  | zero => intro i hi; obtain rfl : i = 0 := by omega
            exact ⟨[], by simp, by simp⟩
  | succ n ih =>
    intro i hi
    by_cases c : i = n + 1
    · subst c; exact ⟨[], by simp, by simp⟩
    · obtain ⟨r, h1, h2⟩ := ih i (by omega)
      rw [freeP_more, h1]
      refine ⟨r ++ (if row.getD n 0 ∈ held then [] else [n]), by rw [List.append_assoc], fun x hx => ?_⟩
      rcases List.mem_append.mp hx with hx | hx
      · exact h2 x hx
      · split at hx
        · cases hx
        · rw [List.mem_singleton.mp hx]; omega
theorem freeM_at {row held : List Nat} {k s : Nat} (h : (freeM row held)[k]? = some s) : s < row.length ∧ row.getD s 0 ∉ held ∧ (freeP row held s).length = k := by
  have hm := freeM_lt (List.mem_of_getElem? h)
  refine ⟨hm.1, hm.2, ?_⟩
  obtain ⟨r, h1, h2⟩ := freeP_pre row held row.length (s + 1) (by omega)
  rw [freeP_more, if_neg hm.2] at h1
  rw [freeM_P, h1] at h
  rw [List.append_assoc] at h
  by_cases c : k < (freeP row held s).length
  · rw [List.getElem?_append_left c] at h
    have := freeP_lt (List.mem_of_getElem? h)
    omega
  · rw [List.getElem?_append_right (by omega)] at h
    cases hk : k - (freeP row held s).length with
    | zero => omega
    | succ m =>
      rw [hk] at h
      have h : r[m]? = some s := by simpa using h
      have := h2 s (List.mem_of_getElem? h)
      omega
theorem freeM_of {row held : List Nat} {s : Nat} (hs : s < row.length) (hf : row.getD s 0 ∉ held) : (freeM row held)[(freeP row held s).length]? = some s := by
  obtain ⟨r, h1, h2⟩ := freeP_pre row held row.length (s + 1) (by omega)
  rw [freeP_more, if_neg hf] at h1
  rw [freeM_P, h1, List.append_assoc, List.getElem?_append_right (Nat.le_refl _)]
  simp
theorem freeM_mono {row held : List Nat} {i j s t : Nat} (h : (freeM row held)[i]? = some s) (h' : (freeM row held)[j]? = some t) (hij : i < j) : s < t := by
  have a := (freeM_at h).2.2
  have b := (freeM_at h').2.2
  by_cases c : s < t
  · exact c
  · obtain ⟨r, h1, _⟩ := freeP_pre row held s t (by omega)
    have := congrArg List.length h1
    rw [List.length_append] at this
    omega
theorem thM_len (row held : List Nat) : (thM row held).length = (freeM row held).length - 1 := rawM_len _ _
/-- the k-th thread lies between the k-th free place and the next -/
theorem thM_get {row held : List Nat} {k : Nat} {w : List Nat} : (thM row held)[k]? = some w ↔ ∃ s t, (freeM row held)[k]? = some s ∧ (freeM row held)[k + 1]? = some t ∧ w = subM row s t := by
  unfold thM rawM
  rw [List.getElem?_map]
  constructor
  · intro h
    cases hz : ((freeM row held).zip (freeM row held).tail)[k]? with
    | none => rw [hz] at h; cases h
    | some q =>
      rw [hz] at h
      obtain ⟨s, t⟩ := q
      rw [List.getElem?_zip_eq_some] at hz
      cases h
      refine ⟨s, t, hz.1, ?_, rfl⟩
      have := hz.2
      rwa [List.getElem?_tail] at this
  · rintro ⟨s, t, h1, h2, rfl⟩
    have : ((freeM row held).zip (freeM row held).tail)[k]? = some (s, t) := by
      rw [List.getElem?_zip_eq_some, List.getElem?_tail]
      exact ⟨h1, h2⟩
    rw [this]; rfl
theorem take_eq_at {row : List Nat} {s : Nat} (hs : s < row.length) : row.take (s + 1) = row.take s ++ [row.getD s 0] := by
  rw [List.getD_eq_getElem?_getD, List.getElem?_eq_getElem hs]
  exact (take_snoc (List.getElem?_eq_getElem hs)).symm
theorem row_at {row : List Nat} {s : Nat} (hs : s < row.length) : row = row.take s ++ row.getD s 0 :: row.drop (s + 1) := by
  rw [List.getD_eq_getElem?_getD, List.getElem?_eq_getElem hs]
  show row = row.take s ++ row[s] :: row.drop (s + 1)
  rw [List.getElem_cons_drop, List.take_append_drop]
theorem th_split {row held : List Nat} {k s : Nat} (h : (freeM row held)[k]? = some s) : (thM row held).take k = (scan held (row.take (s + 1))).2 ∧ (thM row held).drop k = gapM held (row.getD s 0) (row.drop (s + 1)) := by
  obtain ⟨h1, h2, h3⟩ := freeM_at h
  have e : thM row held = (scan held (row.take (s + 1))).2 ++ gapM held (row.getD s 0) (row.drop (s + 1)) := by
    rw [thM_scan]
    conv => lhs; rw [row_at h1]
    rw [scan_at h2, take_eq_at h1]
  have hl : (scan held (row.take (s + 1))).2.length = k := by
    rw [scan_raw (s + 1) (by omega), rawM_len, freeP_more, if_neg h2, List.length_append, h3]
    simp
  rw [e, ← hl]
  exact ⟨List.take_left, List.drop_left⟩
theorem turnsM_of {row held : List Nat} {h t : Nat} (hh : h < t) (ht : t < row.length) (hf : row.getD h 0 ∉ held) (he : row.getD t 0 = row.getD h 0) : (h, t) ∈ turnsM row held := by
  unfold turnsM
  rw [List.mem_flatMap]
  refine ⟨h, List.mem_range.mpr (by omega), ?_⟩
  unfold turnsAt turnsIn
  rw [if_neg hf, List.mem_map]
  refine ⟨t, ?_, rfl⟩
  rw [List.mem_filter, List.mem_range'_1]
  exact ⟨by omega, decide_eq_true he⟩
theorem freeP_same {a b held : List Nat} {n : Nat} (h : a.take n = b.take n) (ha : n ≤ a.length) (hb : n ≤ b.length) : ∀ i, i ≤ n → freeP a held i = freeP b held i := fun i hi => by
  rw [← freeP_take (row := a) hi ha, ← freeP_take (row := b) hi hb, h]
theorem getD_same {a b : List Nat} {n i : Nat} (h : a.take n = b.take n) (hi : i < n) : a.getD i 0 = b.getD i 0 := by
  have e : ∀ l : List Nat, l.getD i 0 = (l.take n).getD i 0 := fun l => by
    rw [List.getD_eq_getElem?_getD, List.getD_eq_getElem?_getD, List.getElem?_take, if_pos hi]
  rw [e a, e b, h]
theorem freeM_same {a b held : List Nat} {n k s : Nat} (h : a.take n = b.take n) (ha : n ≤ a.length) (hb : n ≤ b.length) (hs : s < n) (hk : (freeM a held)[k]? = some s) : (freeM b held)[k]? = some s := by
  obtain ⟨h1, h2, h3⟩ := freeM_at hk
  rw [freeP_same h ha hb s (by omega)] at h3
  rw [← h3]
  exact freeM_of (by omega) (by rw [← getD_same h hs]; exact h2)
theorem turn_form' {row : List Nat} {h t : Nat} (hh : h < t) (ht : t < row.length) (e : row.getD t 0 = row.getD h 0) : ∃ M, row.drop (h + 1) = M ++ row.getD h 0 :: row.drop (t + 1) ∧ (turnM row h t).drop (h + 1) = M.reverse ++ row.getD h 0 :: row.drop (t + 1) ∧ (turnM row h t).take (h + 1) = row.take (h + 1) := by
  have e1 : row.getD h 0 = row[h] := by rw [List.getD_eq_getElem?_getD, List.getElem?_eq_getElem (by omega)]; rfl
  have e2 : row.getD t 0 = row[t] := by rw [List.getD_eq_getElem?_getD, List.getElem?_eq_getElem ht]; rfl
  have ex : row[t] = row[h] := by rw [← e2, e, e1]
  have s1 : (row.drop h).take (t + 1 - h) = row[h] :: ((row.drop (h + 1)).take (t - h - 1) ++ [row[h]]) := by
    rw [List.drop_eq_getElem_cons (by omega), show t + 1 - h = (t - h) + 1 by omega, List.take_succ_cons]
    congr 1
    rw [show t - h = (t - h - 1) + 1 by omega, ← take_snoc (c := row[h]) (by rw [List.getElem?_drop, show h + 1 + (t - h - 1) = t by omega, List.getElem?_eq_getElem ht, ex])]
    rfl
  have ek : row.take h ++ (row[h] :: ((row.drop (h + 1)).take (t - h - 1) ++ [row[h]])).reverse ++ row.drop (t + 1) = (row.take h ++ [row[h]]) ++ (((row.drop (h + 1)).take (t - h - 1)).reverse ++ row[h] :: row.drop (t + 1)) := by
    simp only [List.reverse_cons, List.reverse_append, List.reverse_nil, List.nil_append, List.append_assoc, List.cons_append]
  have hl : (row.take h ++ [row[h]]).length = h + 1 := by simp; omega
  refine ⟨(row.drop (h + 1)).take (t - h - 1), ?_, ?_, ?_⟩
  · have e3 : row.drop h = (row.drop h).take (t + 1 - h) ++ (row.drop h).drop (t + 1 - h) := (List.take_append_drop ..).symm
    rw [s1, List.drop_drop, show h + (t + 1 - h) = t + 1 by omega, List.drop_eq_getElem_cons (by omega), List.cons_append] at e3
    injection e3 with _ e3
    rw [e1]
    conv => lhs; rw [e3]
    rw [List.append_assoc]; rfl
  · unfold turnM
    rw [s1, e1, ek]
    exact List.drop_left' hl
  · unfold turnM
    rw [s1, ek, List.take_left' hl]
    exact take_snoc (List.getElem?_eq_getElem (by omega))
/-- what a turn makes of the threads -/
theorem th_turn {row held : List Nat} {i j h t : Nat} (hi : (freeM row held)[i]? = some h) (hj : (freeM row held)[j]? = some t) (hij : i < j) (he : row.getD t 0 = row.getD h 0) :
    (h, t) ∈ turnsM row held ∧ (freeM (turnM row h t) held)[i]? = some h ∧ (thM (turnM row h t) held).take i = (thM row held).take i ∧ (thM (turnM row h t) held).drop i = ((((thM row held).drop i).take (j - i)).map List.reverse).reverse ++ (thM row held).drop j := by
  have hlt := freeM_mono hi hj hij
  obtain ⟨a1, a2, a3⟩ := freeM_at hi
  obtain ⟨b1, b2, b3⟩ := freeM_at hj
  obtain ⟨M, e1, e2, e3⟩ := turn_form' hlt b1 he
  have hlen : (turnM row h t).length = row.length := turnM_len (by omega) b1
  have hi' : (freeM (turnM row h t) held)[i]? = some h := freeM_same e3.symm (by omega) (by omega) (Nat.lt_succ_self _) hi
  have gx : (turnM row h t).getD h 0 = row.getD h 0 := getD_same e3 (Nat.lt_succ_self _)
  obtain ⟨p1, p2⟩ := th_split hi
  obtain ⟨q1, q2⟩ := th_split hj
  obtain ⟨r1, r2⟩ := th_split hi'
  rw [he] at q2
  rw [e3] at r1
  rw [gx, e2, gap_split a2] at r2
  rw [e1, gap_split a2] at p2
  refine ⟨turnsM_of hlt b1 a2 he, hi', by rw [r1, p1], ?_⟩
  have hl : (gapM held (row.getD h 0) (M ++ [row.getD h 0])).length = j - i := by
    have h1 := congrArg List.length p2
    have h2 := congrArg List.length q2
    have h3 : j < (freeM row held).length := (List.getElem?_eq_some_iff.mp hj).1
    have h4 := thM_len row held
    simp only [List.length_drop, List.length_append] at h1 h2
    omega
  rw [r2, p2, q2, ← hl, List.take_left, gap_rev M.length (Nat.le_refl _) a2 a2]
/-- the first thread behind a turn -/
theorem th_back {row held w : List Nat} {i k h t : Nat} (hi : (freeM row held)[i]? = some h) (hj : (freeM row held)[k + 1]? = some t) (hik : i ≤ k) (hk : (thM row held)[k]? = some w) (he : row.getD t 0 = row.getD h 0) : (thM (turnM row h t) held)[i]? = some w.reverse := by
  obtain ⟨_, _, _, h4⟩ := th_turn hi hj (by omega) he
  have e : (thM (turnM row h t) held)[i]? = ((thM (turnM row h t) held).drop i)[0]? := by rw [List.getElem?_drop, Nat.add_zero]
  have hkl := (List.getElem?_eq_some_iff.mp hk).1
  have hl : (((thM row held).drop i).take (k + 1 - i)).length = k + 1 - i := by simp; omega
  rw [e, h4, List.getElem?_append_left (by simp; omega), List.getElem?_reverse (by simp; omega), List.getElem?_map, List.length_map, hl, List.getElem?_take, if_pos (by omega), List.getElem?_drop, show i + (k + 1 - i - 1 - 0) = k by omega, hk]
  rfl
/-- a thread that is turned about -/
theorem th_flip {row held w : List Nat} {a i j k h t : Nat} (hi : (freeM row held)[i]? = some h) (hj : (freeM row held)[j]? = some t) (ha : a ≤ i) (hik : i ≤ k) (hkj : k < j) (hk : (thM row held)[k]? = some w) (he : row.getD t 0 = row.getD h 0) : w.reverse ∈ (thM (turnM row h t) held).drop a := by
  obtain ⟨_, _, _, h4⟩ := th_turn hi hj (by omega) he
  have hm : w.reverse ∈ (thM (turnM row h t) held).drop i := by
    rw [h4, List.mem_append, List.mem_reverse, List.mem_map]
    refine .inl ⟨w, ?_, rfl⟩
    refine List.mem_of_getElem? (i := k - i) ?_
    rw [List.getElem?_take, if_pos (by omega), List.getElem?_drop, show i + (k - i) = k by omega, hk]
  have : (thM (turnM row h t) held).drop i = ((thM (turnM row h t) held).drop a).drop (i - a) := by rw [List.drop_drop, show a + (i - a) = i by omega]
  rw [this] at hm
  exact List.mem_of_mem_drop hm
end Lt
namespace Lt
open PySem PySem.Spec PyProof.Rows L2 Evl
open SX (S)
variable [ZI]
def fstM (w : List Nat) : Nat := w.headD 0
def lstM (w : List Nat) : Nat := fstM w.reverse
theorem fst_sub {row : List Nat} {s t : Nat} (hs : s ≤ t) (ht : t < row.length) : fstM (subM row s t) = row.getD s 0 := by
  unfold fstM subM
  rw [List.drop_eq_getElem_cons (by omega), show t + 1 - s = (t - s) + 1 by omega, List.take_succ_cons, List.getD_eq_getElem?_getD, List.getElem?_eq_getElem (by omega)]
  rfl
theorem sub_snoc {row : List Nat} {s t : Nat} (hs : s ≤ t) (ht : t < row.length) : subM row s t = (row.drop s).take (t - s) ++ [row.getD t 0] := by
  unfold subM
  rw [show t + 1 - s = (t - s) + 1 by omega, ← take_snoc (c := row.getD t 0)]
  rw [List.getElem?_drop, show s + (t - s) = t by omega, List.getD_eq_getElem?_getD, List.getElem?_eq_getElem ht]
  rfl
theorem lst_sub {row : List Nat} {s t : Nat} (hs : s ≤ t) (ht : t < row.length) : lstM (subM row s t) = row.getD t 0 := by
  unfold lstM
  rw [sub_snoc hs ht, List.reverse_append]
  rfl
theorem lst_rev (w : List Nat) : lstM w.reverse = fstM w := by unfold lstM; rw [List.reverse_reverse]
theorem name_or (w : List Nat) : nameM w = w ∨ nameM w = w.reverse := by
  unfold nameM
  split
  · exact .inr rfl
  · exact .inl rfl
theorem th_ends {row held w : List Nat} {k : Nat} (h : (thM row held)[k]? = some w) : ∃ s t, (freeM row held)[k]? = some s ∧ (freeM row held)[k + 1]? = some t ∧ w = subM row s t ∧ s < t ∧ t < row.length ∧ fstM w = row.getD s 0 ∧ lstM w = row.getD t 0 := by
  obtain ⟨s, t, h1, h2, rfl⟩ := thM_get.mp h
  have h3 := freeM_mono h1 h2 (Nat.lt_succ_self k)
  have h4 := (freeM_at h2).1
  exact ⟨s, t, h1, h2, rfl, h3, h4, fst_sub (by omega) h4, lst_sub (by omega) h4⟩
def bothA (A : Nat → Bool) (w : List Nat) : Bool := A (fstM w) && A (lstM w)
def crossA (A : Nat → Bool) (w : List Nat) : Bool := A (fstM w) != A (lstM w)
theorem both_name (A : Nat → Bool) (w : List Nat) : bothA A (nameM w) = bothA A w := by
  rcases name_or w with e | e <;> rw [e]
  unfold bothA
  rw [lst_rev, Bool.and_comm]
  rfl
theorem cross_name (A : Nat → Bool) (w : List Nat) : crossA A (nameM w) = crossA A w := by
  rcases name_or w with e | e <;> rw [e]
  unfold crossA
  rw [lst_rev]
  show (A (lstM w) != A (fstM w)) = _
  cases A (lstM w) <;> cases A (fstM w) <;> rfl
theorem count_names {L L' : List (List Nat)} {p : List Nat → Bool} (hp : ∀ w, p (nameM w) = p w) (h : (L.map nameM).Perm (L'.map nameM)) : L.countP p = L'.countP p := by
  have := h.countP_eq p
  rw [List.countP_map, List.countP_map] at this
  have e : (p ∘ nameM) = p := funext hp
  rwa [e] at this
/-- a sign on both sides of a thread that doesn't stand where it should -/
theorem th_bridge {one other held w : List Nat} {a k : Nat} (hp : (((thM one held).drop a).map nameM).Perm (((thM other held).drop a).map nameM)) (hw : (thM other held)[a]? = some w) (hk : (thM one held)[k]? = some w) (hak : a < k) :
    ∃ i j s t, a ≤ i ∧ i ≤ k ∧ k < j ∧ (freeM one held)[i]? = some s ∧ (freeM one held)[j]? = some t ∧ one.getD t 0 = one.getD s 0 := by
  refine Classical.byContradiction fun hn => ?_
  have hn' : ∀ i j s t, a ≤ i → i ≤ k → k < j → (freeM one held)[i]? = some s → (freeM one held)[j]? = some t → one.getD t 0 ≠ one.getD s 0 := fun i j s t h1 h2 h3 h4 h5 h6 => hn ⟨i, j, s, t, h1, h2, h3, h4, h5, h6⟩
  clear hn
  let A : Nat → Bool := fun c => (((freeM one held).drop a).take (k + 1 - a)).any fun s => decide (one.getD s 0 = c)
  have inA : ∀ i s, a ≤ i → i ≤ k → (freeM one held)[i]? = some s → A (one.getD s 0) = true := fun i s h1 h2 h3 => by
    refine List.any_eq_true.mpr ⟨s, List.mem_of_getElem? (i := i - a) ?_, decide_eq_true rfl⟩
    rw [List.getElem?_take, if_pos (by omega), List.getElem?_drop, show a + (i - a) = i by omega, h3]
  have outA : ∀ j t, k < j → (freeM one held)[j]? = some t → A (one.getD t 0) = false := fun j t h1 h2 => by
    refine Bool.eq_false_iff.mpr fun h => ?_
    obtain ⟨s, hs, e⟩ := List.any_eq_true.mp h
    obtain ⟨m, hm⟩ := List.getElem?_of_mem hs
    rw [List.getElem?_take] at hm
    split at hm
    · rw [List.getElem?_drop] at hm
      exact hn' (a + m) j s t (by omega) (by omega) h1 hm h2 (of_decide_eq_true e).symm
    · cases hm
  have t1 : ∀ m v, a ≤ m → m < k → (thM one held)[m]? = some v → A (fstM v) = true ∧ A (lstM v) = true := fun m v h1 h2 h3 => by
    obtain ⟨s, t, f1, f2, _, _, _, e1, e2⟩ := th_ends h3
    rw [e1, e2]
    exact ⟨inA m s h1 (by omega) f1, inA (m + 1) t (by omega) (by omega) f2⟩
  have t2 : A (fstM w) = true ∧ A (lstM w) = false := by
    obtain ⟨s, t, f1, f2, _, _, _, e1, e2⟩ := th_ends hk
    rw [e1, e2]
    exact ⟨inA k s (by omega) (by omega) f1, outA (k + 1) t (by omega) f2⟩
  have t3 : ∀ m v, k < m → (thM one held)[m]? = some v → A (fstM v) = false ∧ A (lstM v) = false := fun m v h1 h3 => by
    obtain ⟨s, t, f1, f2, _, _, _, e1, e2⟩ := th_ends h3
    rw [e1, e2]
    exact ⟨outA m s h1 f1, outA (m + 1) t (by omega) f2⟩
  have c1 := count_names (cross_name A) hp
  have b1 := count_names (both_name A) hp
  have hkl := (List.getElem?_eq_some_iff.mp hk).1
  -- one crossing at most
  have c2 : ((thM one held).drop a).countP (crossA A) ≤ 1 := by
    have e : (thM one held).drop a = ((thM one held).drop a).take (k - a) ++ w :: (thM one held).drop (k + 1) := by
      have h1 := (List.take_append_drop (k - a) ((thM one held).drop a)).symm
      rw [List.drop_drop, show a + (k - a) = k by omega, List.drop_eq_getElem_cons hkl] at h1
      have h2 : (thM one held)[k] = w := (List.getElem?_eq_some_iff.mp hk).2
      rw [h2] at h1
      exact h1
    rw [e, List.countP_append, List.countP_cons]
    have z1 : (((thM one held).drop a).take (k - a)).countP (crossA A) = 0 := by
      rw [List.countP_eq_zero]
      intro v hv
      obtain ⟨m, hm⟩ := List.getElem?_of_mem hv
      rw [List.getElem?_take] at hm
      split at hm
      · rw [List.getElem?_drop] at hm
        obtain ⟨q1, q2⟩ := t1 (a + m) v (by omega) (by omega) hm
        unfold crossA
        rw [q1, q2]; simp
      · cases hm
    have z2 : ((thM one held).drop (k + 1)).countP (crossA A) = 0 := by
      rw [List.countP_eq_zero]
      intro v hv
      obtain ⟨m, hm⟩ := List.getElem?_of_mem hv
      rw [List.getElem?_drop] at hm
      obtain ⟨q1, q2⟩ := t3 (k + 1 + m) v (by omega) hm
      unfold crossA
      rw [q1, q2]; simp
    rw [z1, z2]
    split <;> omega
  have hwl := (List.getElem?_eq_some_iff.mp hw).1
  have ew : (thM other held).drop a = w :: (thM other held).drop (a + 1) := by
    rw [List.drop_eq_getElem_cons hwl]
    have h2 : (thM other held)[a] = w := (List.getElem?_eq_some_iff.mp hw).2
    rw [h2]
  rw [ew, List.countP_cons] at c1 b1
  have cw : crossA A w = true := by unfold crossA; rw [t2.1, t2.2]; rfl
  rw [if_pos cw] at c1
  have c0 : ((thM other held).drop (a + 1)).countP (crossA A) = 0 := by omega
  rw [List.countP_eq_zero] at c0
  have key : ∀ m v, (thM other held)[a + 1 + m]? = some v → A (fstM v) = false ∧ A (lstM v) = false := by
    intro m
    induction m with
    | zero =>
      intro v hv
      have hc := c0 v (List.mem_of_getElem? (i := 0) (by rw [List.getElem?_drop]; exact hv))
      obtain ⟨s, t, f1, f2, _, _, _, e1, e2⟩ := th_ends hv
      obtain ⟨s', t', f1', f2', _, _, _, e1', e2'⟩ := th_ends hw
      have : t' = s := by
        rw [f2'] at f1
        cases f1; rfl
      subst this
      have h1 : A (fstM v) = false := by rw [e1, ← e2']; exact t2.2
      refine ⟨h1, ?_⟩
      unfold crossA at hc
      rw [h1] at hc
      simpa using hc
    | succ m ih =>
      intro v hv
      have hc := c0 v (List.mem_of_getElem? (i := m + 1) (by rw [List.getElem?_drop]; exact hv))
      obtain ⟨s, t, f1, f2, _, _, _, e1, e2⟩ := th_ends hv
      have hlen := (List.getElem?_eq_some_iff.mp hv).1
      have hu : (thM other held)[a + 1 + m]? = some (thM other held)[a + 1 + m] := List.getElem?_eq_getElem (by omega)
      obtain ⟨s', t', f1', f2', _, _, _, e1', e2'⟩ := th_ends hu
      have : t' = s := by
        rw [show a + 1 + m + 1 = a + 1 + (m + 1) by omega, f1] at f2'
        cases f2'; rfl
      subst this
      have h1 : A (fstM v) = false := by rw [e1, ← e2']; exact (ih _ hu).2
      refine ⟨h1, ?_⟩
      unfold crossA at hc
      rw [h1] at hc
      simpa using hc
  have b0 : ((thM other held).drop (a + 1)).countP (bothA A) = 0 := by
    rw [List.countP_eq_zero]
    intro v hv
    obtain ⟨m, hm⟩ := List.getElem?_of_mem hv
    rw [List.getElem?_drop] at hm
    unfold bothA
    rw [(key m v hm).1]; simp
  have bw : ¬ bothA A w = true := by unfold bothA; rw [t2.2]; simp
  rw [b0, if_neg bw, List.countP_eq_zero] at b1
  have hu : (thM one held)[a]? = some (thM one held)[a] := List.getElem?_eq_getElem (by omega)
  obtain ⟨q1, q2⟩ := t1 a _ (Nat.le_refl _) hak hu
  refine b1 _ (List.mem_of_getElem? (i := 0) (by rw [List.getElem?_drop]; exact hu)) ?_
  unfold bothA
  rw [q1, q2]; rfl
theorem len_gap {held : List Nat} : ∀ (n : Nat) {R : List Nat} {x : Nat}, R.length ≤ n → x ∉ held → R.length + 1 = ((gapM held x R).map fun w => w.length - 1).sum + ((R.foldl (scF held) (some [x], [])).1.getD []).length := by
  intro n
  induction n with
  | zero =>
    intro R x hn hx
    obtain rfl : R = [] := List.eq_nil_of_length_eq_zero (by omega)
    rfl
  | succ n ih =>
    intro R x hn hx
    rcases free_split held R with k | ⟨M, z, R2, rfl, hz, k⟩
    · have e : gapM held x R = [] := by unfold gapM; rw [gap_none k]
      rw [e, gap_none k]
      simp
    · rw [List.length_append, List.length_cons] at hn ⊢
      have h := ih (R := R2) (x := z) (by omega) hz
      rw [gap_split hz, gap_one k hz, gap_at hz, List.map_append, List.sum_append, List.map_cons, List.map_nil, List.sum_cons, List.sum_nil]
      simp only [List.length_cons, List.length_append, List.length_nil]
      omega
theorem name_len (w : List Nat) : (nameM w).length = w.length := by
  rcases name_or w with e | e <;> rw [e]
  rw [List.length_reverse]
theorem tail_at {row held : List Nat} {s : Nat} (h : (freeM row held).getLast? = some s) : tailM row held = row.drop s := by
  unfold tailM
  rw [h]
theorem thr_perm {a b held : List Nat} (h : thrD a held = thrD b held) : ((thM a held).map nameM).Perm ((thM b held).map nameM) := by
  have h2 := (thrD_inj h).2.1
  have e : ∀ r, ((thM r held).map nameM).Perm (midM r held) := fun r => by
    unfold midM
    rw [cutsM_raw]
    exact (List.mergeSort_perm ..).symm
  exact (e a).trans (h2 ▸ (e b).symm)
theorem free_none {row held : List Nat} (h : freeM row held = []) : headM row held = row ∧ tailM row held = [] := by
  unfold headM tailM
  rw [h]
  exact ⟨rfl, rfl⟩
theorem head_some {row held : List Nat} {s : Nat} (h : (freeM row held)[0]? = some s) : headM row held = row.take (s + 1) := by
  unfold headM
  cases hf : freeM row held with
  | nil => rw [hf] at h; cases h
  | cons a l => rw [hf] at h; cases h; rfl
theorem tail_pos {row held : List Nat} (h : freeM row held ≠ []) : tailM row held ≠ [] := by
  cases hg : (freeM row held).getLast? with
  | none => rw [List.getLast?_eq_none_iff] at hg; exact absurd hg h
  | some s =>
    rw [tail_at hg]
    have := (freeM_lt (List.mem_of_getLast? hg)).1
    intro e
    have := congrArg List.length e
    simp at this
    omega
theorem row_len {row held : List Nat} {s : Nat} (h : (freeM row held)[0]? = some s) : row.length + 1 = (headM row held).length + (((thM row held).map nameM).map fun w => w.length - 1).sum + (tailM row held).length := by
  obtain ⟨h1, h2, _⟩ := freeM_at h
  have e := (th_split h).2
  rw [List.drop_zero] at e
  have hg := len_gap (held := held) (R := row.drop (s + 1)) (x := row.getD s 0) _ (Nat.le_refl _) h2
  rw [← e] at hg
  have et : tailM row held = ((row.drop (s + 1)).foldl (scF held) (some [row.getD s 0], [])).1.getD [] := by
    rw [tailM_scan]
    conv => lhs; rw [row_at h1]
    rw [scan_at h2]
  have es : (((thM row held).map nameM).map fun w => w.length - 1) = (thM row held).map fun w => w.length - 1 := by
    rw [List.map_map]
    refine List.map_congr_left fun w _ => ?_
    show (nameM w).length - 1 = _
    rw [name_len]
  rw [head_some h, et, es, List.length_take, Nat.min_eq_left (by omega)]
  rw [List.length_drop] at hg
  omega
theorem thr_free {a b held : List Nat} (h : thrD a held = thrD b held) : freeM a held = [] ↔ freeM b held = [] := by
  have key : ∀ {a b : List Nat}, thrD a held = thrD b held → freeM a held = [] → freeM b held = [] := fun {a b} h e => by
    refine Classical.byContradiction fun hb => ?_
    have := (thrD_inj h).2.2
    rw [(free_none e).2] at this
    exact tail_pos hb this.symm
  exact ⟨key h, key h.symm⟩
theorem thr_len {a b held : List Nat} (h : thrD a held = thrD b held) : a.length = b.length := by
  obtain ⟨h1, h2, h3⟩ := thrD_inj h
  cases ha : freeM a held with
  | nil =>
    have hb := (thr_free h).mp ha
    rw [(free_none ha).1, (free_none hb).1] at h1
    rw [h1]
  | cons s l =>
    cases hb : freeM b held with
    | nil => rw [(thr_free h).mpr hb] at ha; cases ha
    | cons s' l' =>
      have r1 := row_len (row := a) (held := held) (s := s) (by rw [ha]; rfl)
      have r2 := row_len (row := b) (held := held) (s := s') (by rw [hb]; rfl)
      have hs := ((thr_perm h).map fun w => w.length - 1).sum_nat
      rw [h1, h3, hs] at r1
      omega
/-- how far a row has come to another: its first threads stand -/
structure Come (held other one : List Nat) (a : Nat) : Prop where
  thr : thrD one held = thrD other held
  pre : ∃ s, (freeM other held)[a]? = some s ∧ one.take (s + 1) = other.take (s + 1)
theorem Come.at {held other one : List Nat} {a : Nat} (h : Come held other one a) : ∃ s, (freeM other held)[a]? = some s ∧ (freeM one held)[a]? = some s ∧ one.take (s + 1) = other.take (s + 1) ∧ (thM one held).take a = (thM other held).take a ∧ (((thM one held).drop a).map nameM).Perm (((thM other held).drop a).map nameM) ∧ one.getD s 0 = other.getD s 0 := by
  obtain ⟨s, h1, h2⟩ := h.pre
  have hl := thr_len h.thr
  have hs := (freeM_at h1).1
  have h3 : (freeM one held)[a]? = some s := freeM_same h2.symm (by omega) (by omega) (Nat.lt_succ_self _) h1
  have h4 : (thM one held).take a = (thM other held).take a := by rw [(th_split h1).1, (th_split h3).1, h2]
  refine ⟨s, h1, h3, h2, h4, ?_, getD_same h2 (Nat.lt_succ_self _)⟩
  have hp := thr_perm h.thr
  rw [← List.take_append_drop a (thM one held), ← List.take_append_drop a (thM other held), List.map_append, List.map_append, h4] at hp
  exact (List.perm_append_left_iff _).mp hp
theorem come_start {held other one : List Nat} (h : thrD one held = thrD other held) (hn : freeM other held ≠ []) : Come held other one 0 := by
  refine ⟨h, ?_⟩
  have h1 := (thrD_inj h).1
  cases ho : freeM other held with
  | nil => exact absurd ho hn
  | cons s l =>
    cases ha : freeM one held with
    | nil => exact absurd ((thr_free h).mp ha) hn
    | cons s' l' =>
      have a1 := freeM_at (row := other) (held := held) (k := 0) (s := s) (by rw [ho]; rfl)
      have a2 := freeM_at (row := one) (held := held) (k := 0) (s := s') (by rw [ha]; rfl)
      rw [head_some (row := other) (s := s) (by rw [ho]; rfl), head_some (row := one) (s := s') (by rw [ha]; rfl)] at h1
      have := congrArg List.length h1
      rw [List.length_take, List.length_take, Nat.min_eq_left (by omega), Nat.min_eq_left (by omega)] at this
      obtain rfl : s' = s := by omega
      exact ⟨s', rfl, h1⟩
theorem come_end {held other one : List Nat} {a : Nat} (h : Come held other one a) (he : a + 1 = (freeM other held).length) : one = other := by
  obtain ⟨s, h1, h2, h3, _, _, _⟩ := h.at
  have hp := (thr_perm h.thr).length_eq
  rw [List.length_map, List.length_map, thM_len, thM_len] at hp
  have h4 := (List.getElem?_eq_some_iff.mp h2).1
  have h5 := (List.getElem?_eq_some_iff.mp h1).1
  have e : ∀ r : List Nat, (freeM r held)[a]? = some s → a + 1 = (freeM r held).length → tailM r held = r.drop s := fun r k1 k2 => tail_at (by
    rw [List.getLast?_eq_getElem?, ← k2]; exact k1)
  have t1 := e one h2 (by omega)
  have t2 := e other h1 he
  have t3 := (thrD_inj h.thr).2.2
  rw [t1, t2] at t3
  have h6 : one.take s = other.take s := by
    have := congrArg (List.take s) h3
    rwa [List.take_take, List.take_take, Nat.min_eq_left (by omega)] at this
  rw [← List.take_append_drop s one, ← List.take_append_drop s other, h6, t3]
theorem come_none {held other one : List Nat} (h : thrD one held = thrD other held) (hn : freeM other held = []) : one = other := by
  have h1 := (thrD_inj h).1
  rw [(free_none hn).1, (free_none ((thr_free h).mpr hn)).1] at h1
  exact h1
/-- the thread at hand stands -/
theorem come_next {held other one : List Nat} {a s t : Nat} (h : Come held other one a) (h1 : (freeM other held)[a]? = some s) (h2 : (freeM other held)[a + 1]? = some t) (e : subM one s t = subM other s t) : Come held other one (a + 1) := by
  obtain ⟨s', h1', h2', h3, _, _, _⟩ := h.at
  rw [h1] at h1'
  cases h1'
  refine ⟨h.thr, t, h2, ?_⟩
  have hst := freeM_mono h1 h2 (Nat.lt_succ_self _)
  have ht := (freeM_at h2).1
  have k : ∀ r : List Nat, r.take (t + 1) = r.take s ++ subM r s t := fun r => by
    unfold subM
    have := List.take_add (l := r) (i := s) (j := t + 1 - s)
    rw [show s + (t + 1 - s) = t + 1 by omega] at this
    exact this
  have h6 : one.take s = other.take s := by
    have := congrArg (List.take s) h3
    rwa [List.take_take, List.take_take, Nat.min_eq_left (by omega)] at this
  rw [k one, k other, e, h6]
/-- a slice of one is the thread wanted: so it's its thread -/
theorem slice_th {held other one : List Nat} {a s t : Nat} (h : Come held other one a) (h1 : (freeM other held)[a]? = some s) (h2 : (freeM other held)[a + 1]? = some t) : subM one s t = subM other s t ↔ (thM one held)[a]? = some (subM other s t) := by
  constructor
  · intro e
    have := (come_next h h1 h2 e).at
    obtain ⟨t', q1, q2, _, q4, _, _⟩ := this
    have hw : (thM other held)[a]? = some (subM other s t) := thM_get.mpr ⟨s, t, h1, h2, rfl⟩
    have := congrArg (fun l => l[a]?) q4
    simp only [List.getElem?_take, if_pos (Nat.lt_succ_self a)] at this
    rw [this, hw]
  · intro e
    obtain ⟨s', h1', h2', h3, _, _, _⟩ := h.at
    rw [h1] at h1'
    cases h1'
    obtain ⟨s', t', f1, f2, ew, k1, k2, _, _⟩ := th_ends e
    rw [h2'] at f1
    cases f1
    have ht := freeM_at h2
    have hst := freeM_mono h1 h2 (Nat.lt_succ_self _)
    have hl := congrArg List.length ew
    unfold subM at hl
    rw [List.length_take, List.length_take, List.length_drop, List.length_drop] at hl
    have : t' = t := by omega
    subst this
    exact ew.symm
end Lt
namespace Lt
open PySem PySem.Spec PyProof.Rows L2 Evl
open SX (S)
variable [ZI]
/-- the thread at hand doesn't stand yet -/
structure Want (held other one : List Nat) (a s t : Nat) : Prop where
  co : Come held other one a
  fs : (freeM other held)[a]? = some s
  ft : (freeM other held)[a + 1]? = some t
  ne : subM one s t ≠ subM other s t
open Classical in
/-- how many turns it takes at the most -/
noncomputable def msM (held other one : List Nat) (a s t : Nat) : Nat := if subM one s t = subM other s t then 0 else if (subM other s t).reverse ∈ (thM one held).drop a then 1 else 2
theorem turn_keep {held other one : List Nat} {a s h t : Nat} (c : Come held other one a) (fs : (freeM other held)[a]? = some s) (hm : (h, t) ∈ turnsM one held) (hs : s ≤ h) : Come held other (turnM one h t) a := by
  obtain ⟨h1, h2, h3, h4⟩ := turnsM_mem hm
  dsimp only at h1 h2 h3 h4
  obtain ⟨M, _, _, e⟩ := turn_form' h1 h2 h4
  obtain ⟨s', f1, _, f3, _⟩ := c.at
  rw [fs] at f1
  cases f1
  refine ⟨by rw [thrD_turn hm]; exact c.thr, s, fs, ?_⟩
  have := congrArg (List.take (s + 1)) e
  rw [List.take_take, List.take_take, Nat.min_eq_left (by omega)] at this
  rw [this, f3]
theorem Want.at {held other one : List Nat} {a s t : Nat} (w : Want held other one a s t) : (freeM one held)[a]? = some s ∧ fstM (subM other s t) = one.getD s 0 ∧ (thM other held)[a]? = some (subM other s t) ∧ (thM one held)[a]? ≠ some (subM other s t) := by
  obtain ⟨s', f1, f2, _, _, _, f6⟩ := w.co.at
  rw [w.fs] at f1
  cases f1
  have hst := freeM_mono w.fs w.ft (Nat.lt_succ_self _)
  have ht := (freeM_at w.ft).1
  refine ⟨f2, by rw [fst_sub (by omega) ht, f6], thM_get.mpr ⟨s, t, w.fs, w.ft, rfl⟩, fun h => w.ne ((slice_th w.co w.fs w.ft).mpr h)⟩
theorem step_back {held other one : List Nat} {a s t k t' : Nat} (w : Want held other one a s t) (hk : (thM one held)[k]? = some (subM other s t).reverse) (hak : a ≤ k) (ft' : (freeM one held)[k + 1]? = some t') :
    (s, t') ∈ turnsM one held ∧ Come held other (turnM one s t') a ∧ msM held other (turnM one s t') a s t < msM held other one a s t := by
  obtain ⟨f1, f2, f3, f4⟩ := w.at
  obtain ⟨u, v, g1, g2, _, _, _, g3, g4⟩ := th_ends hk
  rw [ft'] at g2
  cases g2
  have he : one.getD t' 0 = one.getD s 0 := by
    rw [← g4, lst_rev, f2]
  obtain ⟨m, _⟩ := th_turn f1 ft' (by omega) he
  have c := turn_keep w.co w.fs m (Nat.le_refl _)
  refine ⟨m, c, ?_⟩
  have hb := th_back f1 ft' hak hk he
  rw [List.reverse_reverse] at hb
  have h0 : msM held other (turnM one s t') a s t = 0 := by
    unfold msM
    rw [if_pos ((slice_th c w.fs w.ft).mpr hb)]
  rw [h0]
  unfold msM
  rw [if_neg w.ne]
  split <;> omega
theorem step_two {held other one : List Nat} {a s t i j k h t' : Nat} (w : Want held other one a s t) (hn : ∀ k, a ≤ k → (thM one held)[k]? ≠ some (subM other s t).reverse) (hk : (thM one held)[k]? = some (subM other s t)) (hai : a ≤ i) (hik : i ≤ k) (hkj : k < j)
    (fh : (freeM one held)[i]? = some h) (ft' : (freeM one held)[j]? = some t') (he : one.getD t' 0 = one.getD h 0) :
    (h, t') ∈ turnsM one held ∧ Come held other (turnM one h t') a ∧ msM held other (turnM one h t') a s t < msM held other one a s t := by
  obtain ⟨f1, f2, f3, f4⟩ := w.at
  obtain ⟨m, _⟩ := th_turn fh ft' (by omega) he
  have hsh : s ≤ h := by
    by_cases c : a = i
    · subst c
      rw [f1] at fh
      cases fh
      exact Nat.le_refl _
    · exact Nat.le_of_lt (freeM_mono f1 fh (by omega))
  refine ⟨m, turn_keep w.co w.fs m hsh, ?_⟩
  have hf := th_flip fh ft' hai hik hkj hk he
  have h2 : msM held other one a s t = 2 := by
    unfold msM
    rw [if_neg w.ne, if_neg]
    intro hm
    obtain ⟨n, hn'⟩ := List.getElem?_of_mem hm
    rw [List.getElem?_drop] at hn'
    exact hn (a + n) (by omega) hn'
  rw [h2]
  unfold msM
  rw [if_pos hf]
  split <;> omega
theorem want_has {held other one : List Nat} {a s t : Nat} (w : Want held other one a s t) : ∃ k, a ≤ k ∧ ((thM one held)[k]? = some (subM other s t) ∨ (thM one held)[k]? = some (subM other s t).reverse) := by
  obtain ⟨f1, f2, f3, f4⟩ := w.at
  obtain ⟨_, _, _, _, _, hp, _⟩ := w.co.at
  have hm : nameM (subM other s t) ∈ ((thM one held).drop a).map nameM := by
    rw [hp.mem_iff]
    exact List.mem_map.mpr ⟨_, List.mem_of_getElem? (i := 0) (by rw [List.getElem?_drop]; exact f3), rfl⟩
  obtain ⟨v, hv, e⟩ := List.mem_map.mp hm
  obtain ⟨n, hn⟩ := List.getElem?_of_mem hv
  rw [List.getElem?_drop] at hn
  refine ⟨a + n, by omega, ?_⟩
  rw [hn]
  rcases name_or v with e1 | e1 <;> rcases name_or (subM other s t) with e2 | e2 <;> rw [e1, e2] at e
  · exact .inl (by rw [e])
  · exact .inr (by rw [e])
  · right
    rw [← e, List.reverse_reverse]
  · left
    have := congrArg List.reverse e
    rw [List.reverse_reverse, List.reverse_reverse] at this
    rw [this]
end Lt
namespace Lt
open PySem PySem.Spec PyProof.Rows L2 Evl
open SX (S)
variable [ZI]
theorem eqD_refl {d : Dt} (h : cmpOk 60 d = true) : eqD d d = true := by
  have := (okD_toP _ _ h).shaped
  have := (Bool.and_eq_true _ _ ▸ (show ((toP d).canLay0 && decide ((toP d).depth ≤ 64)) = true from this) : _ ∧ _)
  exact PySem.SeqAt.eqv_refl _ this.1
theorem zNe_same {d : Dt} {R : DQ} (h : cmpOk 60 d = true) (k : R false (.bl false)) : zNe d d R := by
  unfold zNe zEqG
  split
  · simpa using k
  · simpa using k
  · simpa using k
  · exact ⟨h, h, by rw [eqD_refl h]; exact k⟩
theorem cmpOk_lst {n : Nat} {ds : List Dt} (h : ∀ d ∈ ds, cmpOk n d = true) : cmpOk (n + 1) (.lst ds) = true := by
  unfold cmpOk
  exact cmpOks_of h
theorem cmpOk_tup {n : Nat} {ds : List Dt} (h : ∀ d ∈ ds, cmpOk n d = true) : cmpOk (n + 1) (.tup ds) = true := by
  unfold cmpOk
  exact cmpOks_of h
theorem adjM_mem {row x : List Nat} (h : x ∈ adjM row) : ∃ a b, x = [a, b] ∧ a ∈ row ∧ b ∈ row ∧ a ≤ b := by
  unfold adjM at h
  obtain ⟨q, hq, rfl⟩ := List.mem_map.mp h
  obtain ⟨a, b⟩ := q
  have h1 := List.of_mem_zip hq
  have h2 := List.mem_of_mem_tail h1.2
  unfold pairM
  dsimp only
  split
  · exact ⟨a, b, rfl, h1.1, h2, by assumption⟩
  · exact ⟨b, a, rfl, h2, h1.1, by omega⟩
/-- a turn keeps the ends -/
theorem turn_ends {row held : List Nat} {h t : Nat} (hm : (h, t) ∈ turnsM row held) : (turnM row h t)[0]? = row[0]? ∧ (turnM row h t)[row.length - 1]? = row[row.length - 1]? := by
  obtain ⟨h1, h2, h3, h4⟩ := turnsM_mem hm
  dsimp only at h1 h2 h3 h4
  have e : ∀ i, i < row.length → row[i]? = some (row.getD i 0) := fun i hi => by rw [List.getD_eq_getElem?_getD, List.getElem?_eq_getElem hi]; rfl
  refine ⟨?_, ?_⟩
  · rw [turnM_get (by omega) h2]
    split
    · obtain rfl : h = 0 := by omega
      rw [show 0 + t - 0 = t by omega, e t h2, e 0 (by omega), h4]
    · rfl
  · rw [turnM_get (by omega) h2]
    split
    · have : t = row.length - 1 := by omega
      rw [show h + t - (row.length - 1) = h by omega, e h (by omega), e (row.length - 1) (by omega), ← this, h4]
    · rfl
theorem turnsM_more {row held : List Nat} {q : Nat × Nat} (h : q ∈ turnsM row held) : q ∈ turnsM row [] := by
  obtain ⟨h1, h2, h3, h4⟩ := turnsM_mem h
  exact turnsM_of h1 h2 (by simp) h4
theorem Stir.none {held row r : List Nat} (s : Stir held row r) : Stir [] row r := by
  induction s with
  | refl => exact .refl
  | step s hm ih => exact .step ih (turnsM_more hm)
end Lt
namespace Lt
open PySem PySem.Spec PyProof.Rows L2 Evl
open SX (S)
variable [ZI]
/-- the signs of a row, rising -/
def sgM (l : List Nat) : List Nat := abcS.filter fun c => decide (c ∈ l)
theorem sgM_sub (l : List Nat) : (sgM l).Sublist abcS := List.filter_sublist
theorem sgM_mem {l : List Nat} {c : Nat} : c ∈ sgM l ↔ c ∈ abcS ∧ c ∈ l := by
  unfold sgM
  rw [List.mem_filter, decide_eq_true_eq]
theorem sorted_abc {l : List Nat} (h : l.Sublist abcS) : (l.map fun c => [c]).Pairwise (fun a b => leT a b = true) := by
  rw [List.pairwise_map]
  refine (List.Pairwise.sublist h (by decide : abcS.Pairwise fun a b => a ≤ b)).imp fun hab => ?_
  unfold leT
  refine decide_eq_true ?_
  rw [← List.not_lt]
  intro q
  rw [List.cons_lt_cons_iff] at q
  rcases q with q | ⟨_, q⟩
  · omega
  · exact absurd q (List.lt_irrefl _)
end Lt
namespace Lt
open PySem PySem.Spec PyProof.Rows L2 Evl
open SX (S)
variable [ZI]
theorem sortN_pair (a b : Nat) : sortN [a, b] = pairM a b := by
  have p1 : (sortN [a, b]).Pairwise fun a b => a ≤ b := (List.pairwise_mergeSort (le := fun a b : Nat => decide (a ≤ b)) (fun a b c h k => by simp at *; omega) (fun a b => by simp; omega) [a, b]).imp fun h => of_decide_eq_true h
  refine List.Perm.eq_of_pairwise (le := fun a b : Nat => a ≤ b) (fun a b _ _ h k => by omega) p1 ?_ ?_
  · unfold pairM
    split
    · simpa
    · simp; omega
  · refine (List.mergeSort_perm ..).trans ?_
    unfold pairM
    split
    · exact .refl _
    · exact List.Perm.swap ..
end Lt
namespace Lt
open PySem PySem.Spec PyProof.Rows L2 Evl
open SX (S)
variable [ZI]
theorem scF_some {held : List Nat} {c : Nat} {m : List Nat} {cs : List (List Nat)} (h : c ∉ held) : scF held (some m, cs) c = (some [c], cs ++ [m ++ [c]]) := by
  unfold scF; rw [if_neg h]
theorem scF_none {held : List Nat} {c : Nat} {cs : List (List Nat)} (h : c ∉ held) : scF held (none, cs) c = (some [c], cs) := by
  unfold scF; rw [if_neg h]
/-- a cut: free at both ends, pinned between -/
def CutOk (held w : List Nat) : Prop := ∃ x M y, w = x :: (M ++ [y]) ∧ x ∉ held ∧ y ∉ held ∧ ∀ c ∈ M, c ∈ held
theorem CutOk.rev {held w : List Nat} (h : CutOk held w) : CutOk held w.reverse := by
  obtain ⟨x, M, y, rfl, h1, h2, h3⟩ := h
  exact ⟨y, M.reverse, x, by simp, h2, h1, fun c hc => h3 c (List.mem_reverse.mp hc)⟩
theorem cutL_in (x y : Nat) (M : List Nat) : cutL (x :: (M ++ [y])) (some 1) (some (-1)) = M := by
  unfold cutL
  have h1 : HT.sIx (x :: (M ++ [y])).length 0 (some 1) = 1 := by
    unfold HT.sIx
    simp
  have h2 : HT.sIx (x :: (M ++ [y])).length (x :: (M ++ [y])).length (some (-1)) = M.length + 1 := by
    unfold HT.sIx
    simp
    try omega
  rw [h1, h2]
  simp
end Lt
namespace Lt
open PySem PySem.Spec PyProof.Rows L2 Evl
open SX (S)
variable [ZI]
/-- a dict keyed by signs -/
def SgOk (fl : AL) : Prop := (fl.map (·.1)).Nodup ∧ ∀ p ∈ fl, ∃ c, c ∈ abcS ∧ p.1 = [c]
theorem SgOk.nil : SgOk [] := ⟨List.nodup_nil, fun _ h => nomatch h⟩
theorem SgOk.put {fl : AL} (h : SgOk fl) {c : Nat} (hc : c ∈ abcS) (d : Dt) : SgOk (putD fl [c] d) := by
  refine ⟨putD_keys h.1, fun p hp => ?_⟩
  rcases putD_mem hp with hp | rfl
  · exact h.2 p hp
  · exact ⟨c, hc, rfl⟩
theorem lkD_some {al : AL} {k : List Nat} : (lkD al k).isSome = true ↔ k ∈ al.map (·.1) := by
  rw [Option.isSome_iff_ne_none, ne_eq, lkD_none, List.mem_map]
  constructor
  · intro h
    apply Classical.byContradiction
    intro q
    exact h fun p hp e => q ⟨p, hp, e⟩
  · rintro ⟨p, hp, e⟩ h
    exact h p hp e
/-- the signs that a dict has, rising -/
def sgD (fl : AL) : List Nat := abcS.filter fun c => (lkD fl [c]).isSome
theorem sgD_sub (fl : AL) : (sgD fl).Sublist abcS := List.filter_sublist
theorem sgD_mem {fl : AL} {c : Nat} : c ∈ sgD fl ↔ c ∈ abcS ∧ [c] ∈ fl.map (·.1) := by
  unfold sgD
  rw [List.mem_filter, lkD_some]
theorem SgOk.keys {fl : AL} (h : SgOk fl) : sortT (fl.map (·.1)) = (sgD fl).map fun c => [c] := by
  refine List.Perm.eq_of_pairwise (le := fun a b : List Nat => leT a b = true) (fun a b _ _ h k => leT_anti h k) (sortT_sorted _) (sorted_abc (sgD_sub fl)) ?_
  refine (List.perm_ext_iff_of_nodup (by unfold sortT; exact (List.mergeSort_perm _ _).nodup_iff.mpr h.1) ?_).mpr fun x => ?_
  · rw [List.nodup_iff_pairwise_ne, List.pairwise_map]
    exact (List.Nodup.sublist (sgD_sub fl) (by decide : abcS.Nodup)).imp fun h q => h (by injection q)
  · unfold sortT
    rw [List.mem_mergeSort]
    constructor
    · intro hx
      obtain ⟨p, hp, rfl⟩ := List.mem_map.mp hx
      obtain ⟨c, hc, e⟩ := h.2 p hp
      rw [e] at hx ⊢
      exact List.mem_map.mpr ⟨c, sgD_mem.mpr ⟨hc, hx⟩, rfl⟩
    · intro hx
      obtain ⟨c, hc, rfl⟩ := List.mem_map.mp hx
      exact (sgD_mem.mp hc).2
theorem SgOk.len {fl : AL} (h : SgOk fl) : fl.length ≤ 8 := by
  have e := congrArg List.length h.keys
  rw [sortT_len, List.length_map, List.length_map] at e
  rw [e]
  exact (sgD_sub fl).length_le
theorem cntD_put {al : AL} {k k' : List Nat} {n : Nat} : cntD (putD al k (.int (n : Int))) k' = if k = k' then n else cntD al k' := by
  unfold cntD
  rw [lkD_put]
  by_cases c : k = k'
  · rw [if_pos c, if_pos c]; simp
  · rw [if_neg c, if_neg c]
def valN : Dt → Nat
  | .int i => i.toNat
  | _ => 0
/-- counts of pairs -/
def WebOk (al : AL) : Prop := (al.map (·.1)).Nodup ∧ al.length ≤ 100 ∧ ∀ p ∈ al, ∃ (a b n : Nat), p = ([a, b], .int (n : Int)) ∧ a ∈ abcS ∧ b ∈ abcS ∧ a ≤ b ∧ n ≤ 1000
def Nb (al : AL) (x y : Nat) : Prop := ∃ p ∈ al, 0 < valN p.2 ∧ x ∈ p.1 ∧ y ∈ p.1
inductive Hang (al : AL) (c : Nat) : Nat → Prop
  | self : Hang al c c
  | step {x y : Nat} : Hang al c x → Nb al x y → Hang al c y
open Classical in
/-- all signs that hang together with one -/
noncomputable def pieceM (al : AL) (c : Nat) : List Nat := abcS.filter fun x => decide (Hang al c x)
abbrev Mt (fl : AL) (x : Nat) : Prop := [x] ∈ fl.map (·.1)
theorem putD_key {al : AL} {k k' : List Nat} {d : Dt} : k' ∈ (putD al k d).map (·.1) ↔ k' = k ∨ k' ∈ al.map (·.1) := by
  rw [← lkD_some, lkD_put, ← lkD_some]
  by_cases c : k = k'
  · rw [if_pos c]; simp [c]
  · rw [if_neg c]
    constructor
    · exact .inr
    · rintro (h | h)
      · exact absurd h.symm c
      · exact h
theorem Mt_put {fl : AL} {c x : Nat} {d : Dt} : Mt (putD fl [c] d) x ↔ x = c ∨ Mt fl x := by
  unfold Mt
  rw [putD_key]
  constructor
  · rintro (h | h)
    · injection h with h; exact .inl h
    · exact .inr h
  · rintro (rfl | h)
    · exact .inl rfl
    · exact .inr h
theorem putD_new {fl : AL} {k : List Nat} {d : Dt} (h : k ∉ fl.map (·.1)) : (putD fl k d).length = fl.length + 1 := by
  have : (fl.any fun p => decide (p.1 = k)) = false := by
    rw [List.any_eq_false]
    intro p hp
    simp only [decide_eq_true_eq]
    exact fun e => h (List.mem_map.mpr ⟨p, hp, e⟩)
  unfold putD
  rw [this]
  simp
structure PInv (al : AL) (c : Nat) (busy : Nat → Prop) (fl : AL) (ws : List Nat) : Prop where
  ok : SgOk fl
  me : Mt fl c
  so : ∀ x, Mt fl x → Hang al c x
  wa : ∀ x ∈ ws, Mt fl x
  al : ∀ x y, Mt fl x → x ∉ ws → ¬ busy x → Nb al x y → Mt fl y
def msP (fl : AL) (ws : List Nat) : Nat := 2 * (8 - fl.length) + ws.length
theorem PInv.start {al : AL} {c : Nat} (hc : c ∈ abcS) : PInv al c (fun _ => False) [([c], .bl true)] [c] where
  ok := ⟨by simp, fun p hp => ⟨c, hc, by rw [List.mem_singleton.mp hp]⟩⟩
  me := by simp [Mt]
  so := fun x hx => by
    have : x = c := by simpa [Mt] using hx
    subst this; exact .self
  wa := fun x hx => by
    rw [List.mem_singleton.mp hx]; simp [Mt]
  al := fun x y hx hn _ _ => by
    have : x = c := by simpa [Mt] using hx
    subst this
    exact absurd (List.mem_singleton.mpr rfl) hn
theorem PInv.pop {al : AL} {c x : Nat} {fl : AL} {ws : List Nat} (h : PInv al c (fun _ => False) fl (ws ++ [x])) : PInv al c (· = x) fl ws := by
  refine ⟨h.ok, h.me, h.so, fun y hy => h.wa y (List.mem_append_left _ hy), fun y z hy hn hb q => h.al y z hy (fun m => ?_) (fun z => z) q⟩
  rcases List.mem_append.mp m with m | m
  · exact hn m
  · exact hb (List.mem_singleton.mp m)
theorem PInv.add {al : AL} {c x y : Nat} {fl : AL} {ws : List Nat} (h : PInv al c (· = x) fl ws) (hx : Mt fl x) (hn : Nb al x y) (hy : y ∈ abcS) (hm : ¬ Mt fl y) : PInv al c (· = x) (putD fl [y] (.bl true)) (ws ++ [y]) ∧ msP (putD fl [y] (.bl true)) (ws ++ [y]) < msP fl ws := by
  have ok2 := h.ok.put hy (.bl true)
  refine ⟨⟨ok2, Mt_put.mpr (.inr h.me), fun z hz => ?_, fun z hz => ?_, fun z w hz hw hb q => ?_⟩, ?_⟩
  · rcases Mt_put.mp hz with rfl | hz
    · exact .step (h.so x hx) hn
    · exact h.so z hz
  · rcases List.mem_append.mp hz with hz | hz
    · exact Mt_put.mpr (.inr (h.wa z hz))
    · exact Mt_put.mpr (.inl (List.mem_singleton.mp hz))
  · rcases Mt_put.mp hz with rfl | hz
    · exact absurd (List.mem_append_right _ (List.mem_singleton.mpr rfl)) hw
    · exact Mt_put.mpr (.inr (h.al z w hz (fun m => hw (List.mem_append_left _ m)) hb q))
  · have l1 := putD_new (d := .bl true) hm
    have l2 := ok2.len
    unfold msP
    rw [List.length_append, l1]
    rw [l1] at l2
    simp
    omega
theorem PInv.done {al : AL} {c x : Nat} {fl : AL} {ws : List Nat} (h : PInv al c (· = x) fl ws) (hx : ∀ y, Nb al x y → Mt fl y) : PInv al c (fun _ => False) fl ws :=
  ⟨h.ok, h.me, h.so, h.wa, fun y z hy hn _ q => by
    by_cases e : y = x
    · subst e; exact hx z q
    · exact h.al y z hy hn e q⟩
def lessD (al : AL) (k : List Nat) : AL := if cntD al k ≤ 1 then dropD al k else putD al k (.int ((cntD al k - 1 : Nat) : Int))
end Lt
namespace Lt
open PySem PySem.Spec PyProof.Rows L2 Evl
open SX (S)
variable [ZI]
/-- the signs of all pairs that are left, as they come -/
def flatM (al : AL) : List Nat := al.flatMap fun p => if 0 < valN p.2 then p.1 else []
def signsM (al : AL) : List Nat := sgM (flatM al)
theorem flatM_mem {al : AL} {c : Nat} : c ∈ flatM al ↔ ∃ p ∈ al, 0 < valN p.2 ∧ c ∈ p.1 := by
  unfold flatM
  rw [List.mem_flatMap]
  constructor
  · rintro ⟨p, hp, h⟩
    split at h
    · exact ⟨p, hp, by assumption, h⟩
    · simp at h
  · rintro ⟨p, hp, h1, h2⟩
    exact ⟨p, hp, by rw [if_pos h1]; exact h2⟩
theorem flatM_abc {al : AL} (h : WebOk al) {c : Nat} (hc : c ∈ flatM al) : c ∈ abcS := by
  obtain ⟨p, hp, _, h2⟩ := flatM_mem.mp hc
  obtain ⟨a, b, n, rfl, ha, hb, _⟩ := h.2.2 p hp
  simp at h2
  rcases h2 with rfl | rfl <;> assumption
theorem signsM_mem {al : AL} (h : WebOk al) {c : Nat} : c ∈ signsM al ↔ ∃ p ∈ al, 0 < valN p.2 ∧ c ∈ p.1 := by
  unfold signsM
  rw [sgM_mem, flatM_mem]
  exact ⟨fun q => q.2, fun q => ⟨flatM_abc h (flatM_mem.mpr q), q⟩⟩
/-- whether all pairs that are left can be gone through from a sign, where their counts let -/
noncomputable def goesB (al : AL) (c : Nat) : Bool := by
  classical
  exact decide (signsM al = [] ∨ c ∈ signsM al ∧ pieceM al c = signsM al)
theorem goesB_iff {al : AL} {c : Nat} : goesB al c = true ↔ signsM al = [] ∨ c ∈ signsM al ∧ pieceM al c = signsM al := by
  classical
  unfold goesB
  rw [decide_eq_true_eq]
end Lt
namespace Lt
open PySem PySem.Spec PyProof.Rows L2 Evl
open SX (S)
variable [ZI]
/-- x in a list of texts -/
theorem inV_strs (x : List Nat) : ∀ l : List (List Nat), inV (Tx x) (l.map fun y => Tx y) = decide (x ∈ l)
  | [] => rfl
  | y :: l => by
    have ih := inV_strs x l
    unfold inV at ih ⊢
    rw [List.map_cons, List.any_cons, ih]
    have e : eqV (Tx y) (Tx x) = decide (x = y) := by
      by_cases c : x = y
      · subst c; simp [eqV]
      · rw [decide_eq_false c]
        simp only [eqV]
        first
          | (rw [beq_eq_false_iff_ne]; exact fun z => c (S_inj z).symm)
          | (simp; exact fun z => c (S_inj z).symm)
    rw [e]
    by_cases c : x = y
    · simp [c]
    · simp [c]
theorem valN_int (n : Nat) : valN (.int (n : Int)) = n := by simp [valN]
def CntOk (al : AL) : Prop := al ≠ [] ∧ al.length ≤ 39 ∧ (∀ p ∈ al, ∃ (a b n : Nat), p = ([a, b], .int (n : Int)) ∧ a ∈ abcS ∧ b ∈ abcS ∧ a ≤ b ∧ 1 ≤ n ∧ n ≤ 39) ∧ (al.Pairwise fun p q => p.1 < q.1) ∧ (al.map fun p => valN p.2).sum ≤ 39
theorem CntOk.keys {al : AL} (h : CntOk al) : (al.map (·.1)).Nodup := by
  rw [List.nodup_iff_pairwise_ne, List.pairwise_map]
  exact h.2.2.2.1.imp fun {a b} q (e : a.1 = b.1) => List.lt_irrefl _ (e ▸ q)
theorem CntOk.web {al : AL} (h : CntOk al) : WebOk al := ⟨h.keys, by have := h.2.1; omega, fun p hp => by
  obtain ⟨a, b, n, e, ha, hb, hab, _, hn⟩ := h.2.2.1 p hp
  exact ⟨a, b, n, e, ha, hb, hab, by omega⟩⟩
theorem putD_fresh {al : AL} {k : List Nat} {d : Dt} (h : k ∉ al.map (·.1)) : putD al k d = al ++ [(k, d)] := by
  unfold putD
  rw [if_neg]
  rw [List.any_eq_true]
  rintro ⟨p, hp, e⟩
  exact h (List.mem_map.mpr ⟨p, hp, by simpa using e⟩)
end Lt
namespace Lt
open PySem PySem.Spec PyProof.Rows L2 Evl
open SX (S)
variable [ZI]
def edgM (al : AL) : List (List Nat) := al.flatMap fun p => List.replicate (valN p.2) p.1
theorem edg_cons (p : List Nat × Dt) (al : AL) : edgM (p :: al) = List.replicate (valN p.2) p.1 ++ edgM al := rfl
theorem edg_mem {al : AL} {k : List Nat} : k ∈ edgM al ↔ ∃ p ∈ al, 0 < valN p.2 ∧ p.1 = k := by
  unfold edgM
  rw [List.mem_flatMap]
  constructor
  · rintro ⟨p, hp, h⟩
    obtain ⟨h1, h2⟩ := List.mem_replicate.mp h
    exact ⟨p, hp, by omega, h2.symm⟩
  · rintro ⟨p, hp, h1, h2⟩
    exact ⟨p, hp, List.mem_replicate.mpr ⟨by omega, h2.symm⟩⟩
theorem cnt_val (al : AL) (k : List Nat) : cntD al k = match lkD al k with | some d => valN d | none => 0 := by
  unfold cntD
  split
  · rename_i i e; rw [e]; rfl
  · rename_i e
    cases h : lkD al k with
    | none => rfl
    | some d =>
      cases d <;> first | rfl | exact absurd h (e _)
theorem edg_count {al : AL} (h : (al.map (·.1)).Nodup) (k : List Nat) : (edgM al).count k = cntD al k := by
  rw [cnt_val]
  induction al with
  | nil => rfl
  | cons p al ih =>
    rw [List.map_cons] at h
    obtain ⟨h1, h2⟩ := List.nodup_cons.mp h
    rw [edg_cons, List.count_append, List.count_replicate, ih h2, lkD_cons]
    by_cases c : p.1 = k
    · have e : lkD al k = none := by
        rw [lkD_none]
        intro q hq e
        exact h1 (List.mem_map.mpr ⟨q, hq, e.trans c.symm⟩)
      rw [e, if_pos c]
      simp [c]
    · rw [if_neg c]
      have : (p.1 == k) = false := by simpa using c
      rw [this]
      simp
theorem nb_edg {al : AL} {x y : Nat} : Nb al x y ↔ ∃ k ∈ edgM al, x ∈ k ∧ y ∈ k := by
  constructor
  · rintro ⟨p, hp, h1, h2, h3⟩
    exact ⟨p.1, edg_mem.mpr ⟨p, hp, h1, rfl⟩, h2, h3⟩
  · rintro ⟨k, hk, h2, h3⟩
    obtain ⟨p, hp, h1, rfl⟩ := edg_mem.mp hk
    exact ⟨p, hp, h1, h2, h3⟩
inductive HangE (E : List (List Nat)) (c : Nat) : Nat → Prop
  | self : HangE E c c
  | step {x y : Nat} {k : List Nat} : HangE E c x → k ∈ E → x ∈ k → y ∈ k → HangE E c y
theorem hang_edg {al : AL} {c x : Nat} : Hang al c x ↔ HangE (edgM al) c x := by
  constructor
  · intro h
    induction h with
    | self => exact .self
    | step _ q ih =>
      obtain ⟨k, h1, h2, h3⟩ := nb_edg.mp q
      exact .step ih h1 h2 h3
  · intro h
    induction h with
    | self => exact .self
    | step _ h1 h2 h3 ih => exact .step ih (nb_edg.mpr ⟨_, h1, h2, h3⟩)
theorem HangE.mono {E E' : List (List Nat)} {c x : Nat} (h : HangE E c x) (k : ∀ e ∈ E, e ∈ E') : HangE E' c x := by
  induction h with
  | self => exact .self
  | step _ h1 h2 h3 ih => exact .step ih (k _ h1) h2 h3
theorem HangE.trans {E : List (List Nat)} {a b c : Nat} (h : HangE E a b) (k : HangE E b c) : HangE E a c := by
  induction k with
  | self => exact h
  | step _ h1 h2 h3 ih => exact .step ih h1 h2 h3
theorem HangE.symm {E : List (List Nat)} {a b : Nat} (h : HangE E a b) : HangE E b a := by
  induction h with
  | self => exact .self
  | step _ h1 h2 h3 ih => exact (HangE.step .self h1 h3 h2).trans ih
theorem mem_pairM {a b c : Nat} : c ∈ pairM a b ↔ c = a ∨ c = b := by
  unfold pairM
  split
  · simp
  · simp [or_comm]
theorem count_pairM (a b c : Nat) : (pairM a b).count c = (if a = c then 1 else 0) + if b = c then 1 else 0 := by
  have h : ∀ x y : Nat, [x, y].count c = (if x = c then 1 else 0) + if y = c then 1 else 0 := fun x y => by
    rw [List.count_cons, List.count_cons]
    by_cases h1 : x = c <;> by_cases h2 : y = c <;> simp [h1, h2]
  unfold pairM
  split
  · exact h a b
  · rw [h b a]; omega
theorem adj_hang : ∀ (l : List Nat) (a y : Nat), y ∈ a :: l → HangE (adjM (a :: l)) a y
  | [], a, y, h => by
    obtain rfl : y = a := by simpa using h
    exact .self
  | b :: l, a, y, h => by
    rcases List.mem_cons.mp h with rfl | h
    · exact .self
    · have h1 : HangE (adjM (a :: b :: l)) a b := .step .self (List.mem_cons_self ..) (mem_pairM.mpr (.inl rfl)) (mem_pairM.mpr (.inr rfl))
      exact h1.trans ((adj_hang l b y h).mono fun e he => List.mem_cons_of_mem _ he)
theorem adj_in {row : List Nat} {k : List Nat} (h : k ∈ adjM row) {c : Nat} (hc : c ∈ k) : c ∈ row := by
  obtain ⟨a, b, rfl, ha, hb, _⟩ := adjM_mem h
  simp at hc
  rcases hc with rfl | rfl <;> assumption
theorem adj_out : ∀ (l : List Nat) (a c : Nat), l ≠ [] → c ∈ a :: l → c ∈ (adjM (a :: l)).flatten
  | [], _, _, h, _ => absurd rfl h
  | b :: l, a, c, _, hc => by
    rw [adjM_cons, List.flatten_cons, List.mem_append, mem_pairM]
    rcases List.mem_cons.mp hc with rfl | hc
    · exact .inl (.inl rfl)
    · cases l with
      | nil =>
        have : c = b := by simpa using hc
        exact .inl (.inr this)
      | cons d l => exact .inr (adj_out (d :: l) b c (by simp) hc)
def lastM (row : List Nat) : Nat := row.getLastD 0
theorem adj_deg : ∀ (l : List Nat) (a c : Nat), (adjM (a :: l)).flatten.count c + (if a = c then 1 else 0) + (if lastM (a :: l) = c then 1 else 0) = 2 * (a :: l).count c
  | [], a, c => by
    show 0 + _ + (if a = c then 1 else 0) = _
    rw [List.count_cons]
    by_cases h : a = c
    · simp [h]
    · simp [h]
  | b :: l, a, c => by
    have ih := adj_deg l b c
    have e : lastM (a :: b :: l) = lastM (b :: l) := by simp [lastM]
    have e3 : (a :: b :: l).count c = (b :: l).count c + if a = c then 1 else 0 := by
      rw [List.count_cons]
      by_cases q : a = c <;> simp [q]
    rw [adjM_cons, List.flatten_cons, List.count_append, count_pairM, e, e3]
    omega
theorem flat_mem {E : List (List Nat)} {c : Nat} : c ∈ E.flatten ↔ ∃ k ∈ E, c ∈ k := List.mem_flatten
theorem signs_edg {al : AL} (h : WebOk al) {c : Nat} : c ∈ signsM al ↔ c ∈ (edgM al).flatten := by
  rw [signsM_mem h, flat_mem]
  constructor
  · rintro ⟨p, hp, h1, h2⟩
    exact ⟨p.1, edg_mem.mpr ⟨p, hp, h1, rfl⟩, h2⟩
  · rintro ⟨k, hk, h2⟩
    obtain ⟨p, hp, h1, rfl⟩ := edg_mem.mp hk
    exact ⟨p, hp, h1, h2⟩
def ConE (E : List (List Nat)) : Prop := ∀ x y, x ∈ E.flatten → y ∈ E.flatten → HangE E x y
theorem hang_in {E : List (List Nat)} {c x : Nat} (h : HangE E c x) : x = c ∨ x ∈ E.flatten := by
  induction h with
  | self => exact .inl rfl
  | step _ h1 _ h3 _ => exact .inr (flat_mem.mpr ⟨_, h1, h3⟩)
section
variable {al : AL} {E : List (List Nat)}
theorem web_signs (h : WebOk al) (p : (edgM al).Perm E) : signsM al = sgM E.flatten := by
  have e : signsM al = abcS.filter fun c => decide (c ∈ signsM al) := by
    unfold signsM sgM
    refine List.filter_congr fun c hc => ?_
    have : c ∈ abcS.filter (fun c => decide (c ∈ flatM al)) ↔ c ∈ flatM al := by
      rw [List.mem_filter]
      simp [hc]
    rw [decide_eq_decide]
    exact this.symm
  rw [e]
  unfold sgM
  refine List.filter_congr fun c _ => ?_
  rw [decide_eq_decide, signs_edg h]
  exact (p.flatten).mem_iff
theorem web_piece (h : WebOk al) (p : (edgM al).Perm E) (hc : ConE E) {c : Nat} (hm : c ∈ E.flatten) : pieceM al c = signsM al := by
  classical
  rw [web_signs h p]
  unfold pieceM sgM
  refine List.filter_congr fun x _ => ?_
  rw [decide_eq_decide, hang_edg]
  constructor
  · intro q
    rcases hang_in (q.mono fun e he => p.mem_iff.mp he) with rfl | q
    · exact hm
    · exact q
  · intro q
    exact (hc c x hm q).mono fun e he => p.mem_iff.mpr he
end
theorem con_row {a : Nat} {l : List Nat} {E : List (List Nat)} (h1 : ∀ k ∈ adjM (a :: l), k ∈ E) (h2 : ∀ k ∈ E, ∀ c ∈ k, c ∈ a :: l) : ConE E := by
  intro x y hx hy
  have key : ∀ z, z ∈ E.flatten → HangE E a z := fun z hz => by
    obtain ⟨k, hk, hz⟩ := flat_mem.mp hz
    exact (adj_hang l a z (h2 k hk z hz)).mono h1
  exact (key x hx).symm.trans (key y hy)
structure PosW (al : AL) (E : List (List Nat)) : Prop where
  nd : (al.map (·.1)).Nodup
  pos : ∀ p ∈ al, ∃ n : Nat, p.2 = .int ((n + 1 : Nat) : Int)
  pm : (edgM al).Perm E
def PairOk (k : List Nat) : Prop := ∃ a b, k = [a, b] ∧ a ∈ abcS ∧ b ∈ abcS ∧ a ≤ b
section
variable {al : AL} {E : List (List Nat)}
theorem PosW.int (h : PosW al E) : IntD al := fun p hp => let ⟨n, e⟩ := h.pos p hp; ⟨n + 1, e⟩
theorem PosW.cnt (h : PosW al E) (k : List Nat) : cntD al k = E.count k := by rw [← edg_count h.nd, h.pm.count_eq]
theorem PosW.key (h : PosW al E) {p : List Nat × Dt} (hp : p ∈ al) : p.1 ∈ E := by
  obtain ⟨n, e⟩ := h.pos p hp
  exact h.pm.mem_iff.mp (edg_mem.mpr ⟨p, hp, by rw [e, valN_int]; omega, rfl⟩)
theorem edg_len (al : AL) : (edgM al).length = (al.map fun p => valN p.2).sum := by
  induction al with
  | nil => rfl
  | cons p al ih => rw [edg_cons, List.length_append, ih]; simp
theorem PosW.len (h : PosW al E) : al.length ≤ E.length := by
  rw [← h.pm.length_eq, edg_len]
  have := h.pos
  clear h
  induction al with
  | nil => simp
  | cons p al ih =>
    obtain ⟨n, e⟩ := this p (List.mem_cons_self ..)
    have := ih fun q hq => this q (List.mem_cons_of_mem _ hq)
    rw [List.map_cons, List.sum_cons, List.length_cons, e, valN_int]
    omega
theorem PosW.val (h : PosW al E) {p : List Nat × Dt} (hp : p ∈ al) : ∃ n : Nat, p.2 = .int ((n + 1 : Nat) : Int) ∧ n + 1 ≤ E.length := by
  obtain ⟨n, e⟩ := h.pos p hp
  refine ⟨n, e, ?_⟩
  rw [← h.pm.length_eq, edg_len]
  have : valN p.2 ∈ al.map fun p => valN p.2 := List.mem_map.mpr ⟨p, hp, rfl⟩
  have key : ∀ (l : List Nat) (x : Nat), x ∈ l → x ≤ l.sum := fun l => by
    induction l with
    | nil => intro x h; simp at h
    | cons y l ih =>
      intro x h
      rw [List.sum_cons]
      rcases List.mem_cons.mp h with rfl | h
      · omega
      · have := ih x h; omega
  have := key _ _ this
  rw [e, valN_int] at this
  exact this
theorem PosW.web (h : PosW al E) (hl : E.length ≤ 100) (hE : ∀ k ∈ E, PairOk k) : WebOk al := by
  refine ⟨h.nd, Nat.le_trans h.len hl, fun p hp => ?_⟩
  obtain ⟨a, b, e, ha, hb, hab⟩ := hE _ (h.key hp)
  obtain ⟨n, e2, hn⟩ := h.val hp
  exact ⟨a, b, n + 1, Prod.ext e e2, ha, hb, hab, by omega⟩
theorem pos_nil : PosW [] [] := ⟨List.nodup_nil, (fun _ h => nomatch h), List.Perm.nil⟩
theorem PosW.inc (h : PosW al E) (k : List Nat) : PosW (incD al k) (k :: E) := by
  have hi := h.int
  have e := incD_eq hi k
  have e2 : incD al k = putD al k (.int ((cntD al k + 1 : Nat) : Int)) := by rw [e]; simp
  have nd : ((incD al k).map (·.1)).Nodup := by rw [e]; exact putD_keys h.nd
  refine ⟨nd, fun p hp => ?_, ?_⟩
  · rw [e2] at hp
    rcases putD_mem hp with hp | rfl
    · exact h.pos p hp
    · exact ⟨_, rfl⟩
  · refine List.perm_iff_count.mpr fun k' => ?_
    rw [edg_count nd, e2, cntD_put, List.count_cons, h.cnt, h.cnt]
    by_cases c : k = k'
    · subst c; simp
    · have : (k == k') = false := by simpa using c
      rw [this, if_neg c]; simp
theorem fold_pos : ∀ (l : List (List Nat)) {al : AL} {E : List (List Nat)}, PosW al E → PosW (l.foldl incD al) (l.reverse ++ E)
  | [], _, _, h => h
  | k :: l, al, E, h => by
    rw [List.foldl_cons, List.reverse_cons, List.append_assoc]
    exact fold_pos l (h.inc k)
theorem PosW.perm {E' : List (List Nat)} (h : PosW al E) (p : E.Perm E') : PosW al E' := ⟨h.nd, h.pos, h.pm.trans p⟩
theorem pairs_pos (row : List Nat) : PosW (pairsM row) (adjM row) := by
  rw [pairsM_adj]
  have := fold_pos (adjM row) pos_nil
  rw [List.append_nil] at this
  exact this.perm (List.reverse_perm _)
end
theorem adj_ok {row : List Nat} (h : ∀ c ∈ row, c ∈ abcS) : ∀ k ∈ adjM row, PairOk k := fun k hk => by
  obtain ⟨a, b, e, ha, hb, hab⟩ := adjM_mem hk
  exact ⟨a, b, e, h a ha, h b hb, hab⟩
theorem adj_len (row : List Nat) : (adjM row).length = row.length - 1 := by
  unfold adjM
  rw [List.length_map, List.length_zip, List.length_tail]
  omega
end Lt
namespace Lt
open PySem PySem.Spec PyProof.Rows L2 Evl
open SX (S)
variable [ZI]
theorem lastM_cons (a b : Nat) (l : List Nat) : lastM (a :: b :: l) = lastM (b :: l) := by simp [lastM]
theorem lastM_app (l : List Nat) (x : Nat) (r : List Nat) : lastM (l ++ x :: r) = lastM (x :: r) := by
  unfold lastM
  rw [List.getLastD_eq_getLast?, List.getLastD_eq_getLast?, List.getLast?_append, List.getLast?_eq_some_getLast (List.cons_ne_nil x r)]
  rfl
theorem pair_with {k : List Nat} (h : PairOk k) {c : Nat} (hc : c ∈ k) : ∃ o, k = pairM c o ∧ o ∈ abcS := by
  obtain ⟨a, b, rfl, ha, hb, hab⟩ := h
  simp at hc
  rcases hc with rfl | rfl
  · exact ⟨b, by unfold pairM; rw [if_pos hab], hb⟩
  · refine ⟨a, ?_, ha⟩
    unfold pairM
    split
    · have : c = a := by omega
      subst this; rfl
    · rfl
theorem take_out {E : List (List Nat)} {k : List Nat} (h : k ∈ E) : E.Perm (k :: E.erase k) := List.perm_cons_erase h
/-- from a sign on to another, as far as the odd signs let -/
theorem walk_odd : ∀ (n : Nat) (E : List (List Nat)) (c e : Nat), E.length ≤ n → (∀ k ∈ E, PairOk k) →
    (∀ x, E.flatten.count x % 2 = ((if c = x then 1 else 0) + if e = x then 1 else 0) % 2) → ∃ t F, E.Perm (adjM (c :: t) ++ F) ∧ lastM (c :: t) = e
  | n, E, c, e, hn, hE, hp => by
    by_cases hce : c = e
    · subst hce
      exact ⟨[], E, .refl _, rfl⟩
    · have h1 := hp c
      rw [if_pos rfl, if_neg (fun z => hce z.symm)] at h1
      have hm : c ∈ E.flatten := List.count_pos_iff.mp (by omega)
      obtain ⟨k, hk, hck⟩ := flat_mem.mp hm
      obtain ⟨o, rfl, ho⟩ := pair_with (hE k hk) hck
      have pe := take_out hk
      have hl := List.length_erase_of_mem hk
      have hpos := List.length_pos_of_mem hk
      cases n with
      | zero => omega
      | succ n =>
        obtain ⟨t, F, q1, q2⟩ := walk_odd n (E.erase (pairM c o)) o e (by omega) (fun k h => hE k (List.mem_of_mem_erase h)) (fun x => by
          have h2 := hp x
          have h3 := (pe.flatten).count_eq x
          rw [List.flatten_cons, List.count_append, count_pairM] at h3
          omega)
        refine ⟨o :: t, F, pe.trans ?_, by rw [lastM_cons]; exact q2⟩
        rw [adjM_cons]
        exact q1.cons _
/-- round about and back -/
theorem walk_round {E : List (List Nat)} {v : Nat} (hE : ∀ k ∈ E, PairOk k) (hp : ∀ x, E.flatten.count x % 2 = 0) (hv : v ∈ E.flatten) : ∃ t F, t ≠ [] ∧ E.Perm (adjM (v :: t) ++ F) ∧ lastM (v :: t) = v := by
  obtain ⟨k, hk, hvk⟩ := flat_mem.mp hv
  obtain ⟨o, rfl, ho⟩ := pair_with (hE k hk) hvk
  have pe := take_out hk
  obtain ⟨t, F, q1, q2⟩ := walk_odd _ (E.erase (pairM v o)) o v (Nat.le_refl _) (fun k h => hE k (List.mem_of_mem_erase h)) (fun x => by
    have h2 := hp x
    have h3 := (pe.flatten).count_eq x
    rw [List.flatten_cons, List.count_append, count_pairM] at h3
    omega)
  refine ⟨o :: t, F, by simp, pe.trans ?_, by rw [lastM_cons]; exact q2⟩
  rw [adjM_cons]
  exact q1.cons _
theorem last_split {t : List Nat} (h : t ≠ []) : ∃ s, t = s ++ [lastM t] := by
  refine ⟨t.dropLast, ?_⟩
  unfold lastM
  rw [List.getLastD_eq_getLast?, List.getLast?_eq_some_getLast h]
  exact (List.dropLast_concat_getLast h).symm
/-- a round put in -/
theorem splice {A B t : List Nat} {v : Nat} (ht : t ≠ []) (hl : lastM (v :: t) = v) : adjM (A ++ v :: (t ++ B)) = adjM (A ++ [v]) ++ (adjM (v :: t) ++ adjM (v :: B)) ∧ lastM (A ++ v :: (t ++ B)) = lastM (A ++ v :: B) := by
  obtain ⟨s, hs⟩ := last_split ht
  have e : lastM t = v := by
    cases t with
    | nil => exact absurd rfl ht
    | cons x t => rw [lastM_cons] at hl; exact hl
  rw [e] at hs
  subst hs
  have e2 : v :: (s ++ [v] ++ B) = (v :: s) ++ v :: B := by simp
  refine ⟨?_, ?_⟩
  · rw [adjM_app A v (s ++ [v] ++ B), e2, adjM_app (v :: s) v B]
    rfl
  · rw [lastM_app, lastM_app, e2, lastM_app]
theorem reach {E R : List (List Nat)} {row : List Nat} {c x : Nat} (hr : E.Perm (adjM row ++ R)) (hc : c ∈ row) (h : HangE E c x) : x ∈ row ∨ ∃ v ∈ row, v ∈ R.flatten := by
  induction h with
  | self => exact .inl hc
  | step _ hk h2 h3 ih =>
    rcases ih with ih | ih
    · rcases List.mem_append.mp (hr.mem_iff.mp hk) with q | q
      · exact .inl (adj_in q h3)
      · exact .inr ⟨_, ih, flat_mem.mpr ⟨_, q, h2⟩⟩
    · exact .inr ih
theorem round_all : ∀ (n : Nat) (E R : List (List Nat)) (row : List Nat) (c : Nat), R.length ≤ n → (∀ k ∈ E, PairOk k) → E.Perm (adjM row ++ R) → c ∈ row → (∀ x, R.flatten.count x % 2 = 0) → (∀ x ∈ E.flatten, HangE E c x) →
    ∃ row', E.Perm (adjM row') ∧ row'.head? = row.head? ∧ lastM row' = lastM row
  | n, E, R, row, c, hn, hE, hp, hc, he, hh => by
    cases R with
    | nil => exact ⟨row, by simpa using hp, rfl, rfl⟩
    | cons k R =>
      have hkE : k ∈ E := hp.mem_iff.mpr (List.mem_append_right _ (List.mem_cons_self ..))
      have hv : ∃ v ∈ row, v ∈ (k :: R).flatten := by
        obtain ⟨a, b, hk, _⟩ := hE k hkE
        have ha : a ∈ k := by rw [hk]; simp
        rcases reach hp hc (hh a (flat_mem.mpr ⟨k, hkE, ha⟩)) with q | q
        · exact ⟨a, q, flat_mem.mpr ⟨k, List.mem_cons_self .., ha⟩⟩
        · exact q
      obtain ⟨v, hv1, hv2⟩ := hv
      obtain ⟨t, F, ht, q1, q2⟩ := walk_round (fun k' h => hE k' (hp.mem_iff.mpr (List.mem_append_right _ h))) he hv2
      obtain ⟨A, B, rfl⟩ := List.append_of_mem hv1
      obtain ⟨s1, s2⟩ := splice (A := A) (B := B) ht q2
      have hlen := q1.length_eq
      have hpos : 0 < (adjM (v :: t)).length := by
        rw [adj_len]
        cases t with
        | nil => exact absurd rfl ht
        | cons x t => simp
      rw [List.length_append] at hlen
      cases n with
      | zero => simp at hn
      | succ n =>
        have heF : ∀ x, F.flatten.count x % 2 = 0 := fun x => by
          have h1 := he x
          have h2 := (q1.flatten).count_eq x
          rw [List.flatten_append, List.count_append] at h2
          have h3 := adj_deg t v x
          rw [q2] at h3
          omega
        have hp2 : E.Perm (adjM (A ++ v :: (t ++ B)) ++ F) := by
          rw [s1]
          refine hp.trans ?_
          rw [adjM_app A v B]
          have p1 : ((adjM (A ++ [v]) ++ adjM (v :: B)) ++ (k :: R)).Perm ((adjM (A ++ [v]) ++ adjM (v :: B)) ++ (adjM (v :: t) ++ F)) := q1.append_left _
          refine p1.trans ?_
          have p2 : (adjM (v :: B) ++ (adjM (v :: t) ++ F)).Perm (adjM (v :: t) ++ adjM (v :: B) ++ F) := by
            rw [← List.append_assoc]
            exact List.perm_append_comm.append_right _
          have := p2.append_left (adjM (A ++ [v]))
          simpa [List.append_assoc] using this
        obtain ⟨row', r1, r2, r3⟩ := round_all n E F (A ++ v :: (t ++ B)) c (by omega) hE hp2 (by
          rcases List.mem_append.mp hc with q | q
          · exact List.mem_append_left _ q
          · refine List.mem_append_right _ ?_
            rcases List.mem_cons.mp q with q | q
            · rw [q]; exact List.mem_cons_self ..
            · exact List.mem_cons_of_mem _ (List.mem_append_right _ q)) heF hh
        refine ⟨row', r1, r2.trans ?_, r3.trans s2⟩
        cases A <;> rfl
/-- EULER: from c to e through all pairs -/
theorem euler {E : List (List Nat)} {c e : Nat} (hE : ∀ k ∈ E, PairOk k) (hp : ∀ x, E.flatten.count x % 2 = ((if c = x then 1 else 0) + if e = x then 1 else 0) % 2) (hh : ∀ x ∈ E.flatten, HangE E c x) :
    ∃ t, E.Perm (adjM (c :: t)) ∧ lastM (c :: t) = e := by
  obtain ⟨t, F, q1, q2⟩ := walk_odd _ E c e (Nat.le_refl _) hE hp
  obtain ⟨row', r1, r2, r3⟩ := round_all _ E F (c :: t) c (Nat.le_refl _) hE q1 (List.mem_cons_self ..) (fun x => by
    have h1 := hp x
    have h2 := (q1.flatten).count_eq x
    rw [List.flatten_append, List.count_append] at h2
    have h3 := adj_deg t c x
    rw [q2] at h3
    omega) hh
  cases row' with
  | nil => simp at r2
  | cons a t' =>
    have : a = c := by simpa using r2
    subst this
    exact ⟨t', r1, r3.trans q2⟩
end Lt
namespace Lt
open PySem PySem.Spec PyProof.Rows L2 Evl
open SX (S)
variable [ZI]
theorem lkD_drop {k k' : List Nat} : ∀ {al : AL}, lkD (dropD al k) k' = if k = k' then none else lkD al k'
  | [] => by simp [dropD, lkD]
  | p :: al => by
    have ih := lkD_drop (k := k) (k' := k') (al := al)
    unfold dropD at ih ⊢
    rw [List.filter_cons, lkD_cons]
    by_cases c : p.1 = k
    · rw [if_neg (by simp [c]), ih]
      by_cases d : k = k'
      · rw [if_pos d, if_pos d]
      · rw [if_neg d, if_neg d, if_neg (fun z => d (c.symm.trans z))]
    · rw [if_pos (by simp [c]), lkD_cons, ih]
      by_cases d : k = k'
      · subst d; rw [if_pos rfl, if_neg c, if_pos rfl]
      · rw [if_neg d, if_neg d]
theorem cntD_drop {al : AL} {k k' : List Nat} : cntD (dropD al k) k' = if k = k' then 0 else cntD al k' := by
  rw [cnt_val, cnt_val, lkD_drop]
  by_cases d : k = k'
  · rw [if_pos d, if_pos d]
  · rw [if_neg d, if_neg d]
theorem PosW.less {al : AL} {E : List (List Nat)} (h : PosW al E) {k : List Nat} (hk : k ∈ E) : PosW (lessD al k) (E.erase k) := by
  have hc := h.cnt k
  have hpos : 0 < E.count k := List.count_pos_iff.mpr hk
  unfold lessD
  by_cases q : cntD al k ≤ 1
  · rw [if_pos q]
    have nd : ((dropD al k).map (·.1)).Nodup := by
      refine List.Nodup.sublist (List.Sublist.map _ ?_) h.nd
      unfold dropD
      exact List.filter_sublist
    refine ⟨nd, fun p hp => h.pos p (by unfold dropD at hp; exact (List.mem_filter.mp hp).1), List.perm_iff_count.mpr fun k' => ?_⟩
    rw [edg_count nd, cntD_drop, List.count_erase, h.cnt]
    by_cases d : k = k'
    · subst d; simp; omega
    · have : (k == k') = false := by simpa using d
      have : (k' == k) = false := by simpa using fun z => d z.symm
      simp [d, *]
  · rw [if_neg q]
    obtain ⟨m, hm⟩ : ∃ m, cntD al k = m + 2 := ⟨cntD al k - 2, by omega⟩
    rw [hm]
    have nd : ((putD al k (.int ((m + 2 - 1 : Nat) : Int))).map (·.1)).Nodup := putD_keys h.nd
    refine ⟨nd, fun p hp => ?_, List.perm_iff_count.mpr fun k' => ?_⟩
    · rcases putD_mem hp with hp | rfl
      · exact h.pos p hp
      · exact ⟨m, rfl⟩
    · rw [edg_count nd, cntD_put, List.count_erase, h.cnt]
      by_cases d : k = k'
      · subst d; simp; omega
      · have : (k == k') = false := by simpa using d
        have : (k' == k) = false := by simpa using fun z => d z.symm
        simp [d, *]
def othM (c : Nat) (k : List Nat) : Nat := if k.headD 0 = c then k.getD 1 0 else k.headD 0
theorem oth_pair (c o : Nat) : othM c (pairM c o) = o := by
  unfold othM pairM
  by_cases h : c ≤ o
  · rw [if_pos h]; simp
  · rw [if_neg h]
    have : o ≠ c := by omega
    simp [this]
def nbrA (al : AL) (c : Nat) : List Nat := al.flatMap fun p => if c ∈ p.1 then [othM c p.1] else []
def nbrM (al : AL) (c : Nat) : List Nat := sgM (nbrA al c)
noncomputable def nextM (al : AL) (c : Nat) : List Nat := (nbrM al c).filter fun o => goesB (lessD al (pairM c o)) o
section
variable {al : AL} {E : List (List Nat)}
theorem nbrA_abc (h : PosW al E) (hE : ∀ k ∈ E, PairOk k) {c o : Nat} (ho : o ∈ nbrA al c) : o ∈ abcS ∧ pairM c o ∈ E := by
  unfold nbrA at ho
  obtain ⟨p, hp, ho⟩ := List.mem_flatMap.mp ho
  split at ho
  · rename_i hc
    obtain ⟨o', e, ho'⟩ := pair_with (hE _ (h.key hp)) hc
    have hk := h.key hp
    rw [e] at ho hk
    rw [oth_pair] at ho
    obtain rfl : o = o' := by simpa using ho
    exact ⟨ho', hk⟩
  · simp at ho
theorem nbr_mem (h : PosW al E) (hE : ∀ k ∈ E, PairOk k) {c o : Nat} : o ∈ nbrM al c ↔ o ∈ abcS ∧ pairM c o ∈ E := by
  unfold nbrM
  rw [sgM_mem]
  constructor
  · exact fun q => nbrA_abc h hE q.2
  · rintro ⟨h1, h2⟩
    refine ⟨h1, ?_⟩
    obtain ⟨p, hp, _, e⟩ := edg_mem.mp (h.pm.mem_iff.mpr h2)
    unfold nbrA
    refine List.mem_flatMap.mpr ⟨p, hp, ?_⟩
    rw [e, if_pos (mem_pairM.mpr (.inl rfl)), oth_pair]
    simp
theorem nextM_sub (al : AL) (c : Nat) : (nextM al c).Sublist abcS := List.filter_sublist.trans (sgM_sub _)
theorem same_last {a : Nat} {l m : List Nat} (h : (adjM (a :: l)).Perm (adjM (a :: m))) : lastM (a :: l) = lastM (a :: m) := by
  have h1 := adj_deg l a (lastM (a :: l))
  have h2 := adj_deg m a (lastM (a :: l))
  have h3 := (h.flatten).count_eq (lastM (a :: l))
  rw [if_pos rfl] at h1
  by_cases q : lastM (a :: m) = lastM (a :: l)
  · exact q.symm
  · rw [if_neg q] at h2
    omega
/-- the signs that may come next: those with which a row goes on -/
theorem next_mem (h : PosW al E) (hl : E.length ≤ 100) (hE : ∀ k ∈ E, PairOk k) {c o : Nat} {t : List Nat} (hr : E.Perm (adjM (c :: t))) : o ∈ nextM al c ↔ o ∈ abcS ∧ ∃ t', E.Perm (adjM (c :: o :: t')) := by
  unfold nextM
  rw [List.mem_filter, nbr_mem h hE]
  constructor
  · rintro ⟨⟨h1, h2⟩, h3⟩
    refine ⟨h1, ?_⟩
    have hp := h.less h2
    have hE' : ∀ k ∈ E.erase (pairM c o), PairOk k := fun k hk => hE k (List.mem_of_mem_erase hk)
    have hw := hp.web (by rw [List.length_erase_of_mem h2]; omega) hE'
    have pe := take_out h2
    obtain ⟨t', q1, _⟩ := euler (E := E.erase (pairM c o)) (c := o) (e := lastM (c :: t)) hE' (fun x => by
      have e1 := adj_deg t c x
      have e2 := (hr.flatten).count_eq x
      have e3 := (pe.flatten).count_eq x
      rw [List.flatten_cons, List.count_append, count_pairM] at e3
      omega) (fun x hx => by
      have hs : x ∈ signsM (lessD al (pairM c o)) := (signs_edg hw).mpr ((hp.pm.flatten).mem_iff.mpr hx)
      rcases goesB_iff.mp h3 with q | ⟨_, q⟩
      · rw [q] at hs; simp at hs
      · rw [← q] at hs
        classical
        unfold pieceM at hs
        have := (List.mem_filter.mp hs).2
        rw [decide_eq_true_eq, hang_edg] at this
        exact this.mono fun e he => hp.pm.mem_iff.mp he)
    refine ⟨t', pe.trans ?_⟩
    rw [adjM_cons]
    exact q1.cons _
  · rintro ⟨h1, t', q⟩
    rw [adjM_cons] at q
    have h2 : pairM c o ∈ E := q.mem_iff.mpr (List.mem_cons_self ..)
    refine ⟨⟨h1, h2⟩, ?_⟩
    have hp := h.less h2
    have hE' : ∀ k ∈ E.erase (pairM c o), PairOk k := fun k hk => hE k (List.mem_of_mem_erase hk)
    have hw := hp.web (by rw [List.length_erase_of_mem h2]; omega) hE'
    have pe : (E.erase (pairM c o)).Perm (adjM (o :: t')) := (List.perm_cons (pairM c o)).mp ((take_out h2).symm.trans q)
    have pm := hp.pm.trans pe
    rw [goesB_iff]
    cases t' with
    | nil =>
      left
      rw [web_signs hw pm]
      unfold sgM
      exact List.filter_eq_nil_iff.mpr fun x _ => by simp [adjM]
    | cons d t' =>
      right
      have hm : o ∈ (adjM (o :: d :: t')).flatten := adj_out (d :: t') o o (by simp) (List.mem_cons_self ..)
      have hc : ConE (adjM (o :: d :: t')) := con_row (fun _ h => h) fun k hk c hc => adj_in hk hc
      exact ⟨(signs_edg hw).mpr ((pm.flatten).mem_iff.mpr hm), web_piece hw pm hc hm⟩
theorem adj_abc {c : Nat} {t : List Nat} (hE : ∀ k ∈ adjM (c :: t), PairOk k) : ∀ o ∈ t, o ∈ abcS := by
  induction t generalizing c with
  | nil => simp
  | cons b t ih =>
    intro o ho
    rcases List.mem_cons.mp ho with rfl | ho
    · obtain ⟨x, y, e, hx, hy, _⟩ := hE (pairM c o) (List.mem_cons_self ..)
      have : o ∈ pairM c o := mem_pairM.mpr (.inr rfl)
      rw [e] at this
      simp at this
      rcases this with rfl | rfl <;> assumption
    · exact ih (fun k hk => hE k (List.mem_cons_of_mem _ hk)) o ho
end
end Lt
namespace Lt
open PySem PySem.Spec PyProof.Rows L2 Evl
open SX (S)
variable [ZI]
/-- rows of the same pairs, first and last sign -/
def KinM (row other : List Nat) : Prop := row.length = other.length ∧ row.head? = other.head? ∧ (adjM row).Perm (adjM other)
theorem KinM.refl (row : List Nat) : KinM row row := ⟨rfl, rfl, .refl _⟩
theorem KinM.symm {a b : List Nat} (h : KinM a b) : KinM b a := ⟨h.1.symm, h.2.1.symm, h.2.2.symm⟩
theorem KinM.trans {a b c : List Nat} (h : KinM a b) (k : KinM b c) : KinM a c := ⟨h.1.trans k.1, h.2.1.trans k.2.1, h.2.2.trans k.2.2⟩
theorem KinM.last {a b : List Nat} (h : KinM a b) : lastM a = lastM b := by
  cases a with
  | nil =>
    cases b with
    | nil => rfl
    | cons y b => have := h.1; simp at this
  | cons x a =>
    cases b with
    | nil => have := h.1; simp at this
    | cons y b =>
      have e : x = y := by simpa using h.2.1
      subst e
      exact same_last h.2.2
theorem KinM.abc {a b : List Nat} (h : KinM a b) (hb : ∀ c ∈ a, c ∈ abcS) : ∀ c ∈ b, c ∈ abcS := by
  cases b with
  | nil => simp
  | cons y b =>
    cases a with
    | nil => have := h.1; simp at this
    | cons x a =>
      have e : x = y := by simpa using h.2.1
      subst e
      intro c hc
      rcases List.mem_cons.mp hc with rfl | hc
      · exact hb c (List.mem_cons_self ..)
      · exact adj_abc (fun k hk => adj_ok hb k (h.2.2.mem_iff.mpr hk)) c hc
theorem KinM.row {a b : List Nat} (h : KinM a b) (ha : RowOk a) : RowOk b := ⟨by rw [← h.1]; exact ha.1, by rw [← h.1]; exact ha.2.1, h.abc ha.2.2⟩
end Lt
namespace Lt
open PySem PySem.Spec PyProof.Rows L2 Evl
open SX (S)
variable [ZI]
theorem PosW.add {al : AL} {E : List (List Nat)} (h : PosW al E) (k : List Nat) (n : Nat) : PosW (putD al k (.int ((cntD al k + (n + 1) : Nat) : Int))) (List.replicate (n + 1) k ++ E) := by
  have nd : ((putD al k (.int ((cntD al k + (n + 1) : Nat) : Int))).map (·.1)).Nodup := putD_keys h.nd
  refine ⟨nd, fun p hp => ?_, List.perm_iff_count.mpr fun k' => ?_⟩
  · rcases putD_mem hp with hp | rfl
    · exact h.pos p hp
    · exact ⟨cntD al k + n, rfl⟩
  · rw [edg_count nd, cntD_put, List.count_append, List.count_replicate, h.cnt, h.cnt]
    by_cases c : k = k'
    · subst c; simp; omega
    · have : (k == k') = false := by simpa using c
      rw [this, if_neg c]; simp
end Lt
namespace Lt
open PySem PySem.Spec PyProof.Rows L2 Evl
open SX (S)
variable [ZI]
theorem want_step {held other one : List Nat} {a s t : Nat} (w : Want held other one a s t) : ∃ h t', (h, t') ∈ turnsM one held ∧ Come held other (turnM one h t') a ∧ msM held other (turnM one h t') a s t < msM held other one a s t := by
  obtain ⟨f1, f2, f3, f4⟩ := w.at
  obtain ⟨_, _, _, _, _, hp, _⟩ := w.co.at
  by_cases hr : ∃ k, a ≤ k ∧ (thM one held)[k]? = some (subM other s t).reverse
  · obtain ⟨k, hak, hk⟩ := hr
    obtain ⟨u, v, g1, g2, _⟩ := th_ends hk
    exact ⟨s, v, step_back w hk hak g2⟩
  · have hn : ∀ k, a ≤ k → (thM one held)[k]? ≠ some (subM other s t).reverse := fun k h1 h2 => hr ⟨k, h1, h2⟩
    obtain ⟨k, hak, q | q⟩ := want_has w
    · have hak2 : a < k := by
        by_cases c : a = k
        · subst c; exact absurd q f4
        · omega
      obtain ⟨i, j, u, v, b1, b2, b3, b4, b5, b6⟩ := th_bridge hp f3 q hak2
      exact ⟨u, v, step_two w hn q b1 b2 b3 b4 b5 b6⟩
    · exact absurd q (hn k hak)
theorem come_one {held other one : List Nat} {a s t : Nat} (fs : (freeM other held)[a]? = some s) (ft : (freeM other held)[a + 1]? = some t) : ∀ (m : Nat) (cur : List Nat), msM held other cur a s t ≤ m → Stir held one cur → Come held other cur a → ∃ cur', Stir held one cur' ∧ Come held other cur' (a + 1)
  | m, cur, hm, hs, hc => by
    by_cases e : subM cur s t = subM other s t
    · exact ⟨cur, hs, come_next hc fs ft e⟩
    · obtain ⟨h, t', h1, h2, h3⟩ := want_step ⟨hc, fs, ft, e⟩
      cases m with
      | zero => omega
      | succ m => exact come_one fs ft m _ (by omega) (.step hs h1) h2
theorem come_all {held other one : List Nat} : ∀ (n a : Nat) (cur : List Nat), (freeM other held).length - (a + 1) = n → a < (freeM other held).length → Stir held one cur → Come held other cur a → Stir held one other
  | 0, a, cur, hn, ha, hs, hc => by
    have := come_end hc (by omega)
    rw [← this]; exact hs
  | n + 1, a, cur, hn, ha, hs, hc => by
    have fs : (freeM other held)[a]? = some (freeM other held)[a] := List.getElem?_eq_getElem ha
    have ft : (freeM other held)[a + 1]? = some ((freeM other held)[a + 1]'(by omega)) := List.getElem?_eq_getElem (by omega)
    obtain ⟨cur', h1, h2⟩ := come_one fs ft _ cur (Nat.le_refl _) hs hc
    exact come_all n (a + 1) cur' (by omega) (by omega) h1 h2
theorem stir_iff {held one other : List Nat} : Stir held one other ↔ thrD one held = thrD other held := by
  constructor
  · exact fun s => s.thr.symm
  · intro h
    by_cases hn : freeM other held = []
    · rw [come_none h hn]; exact .refl
    · exact come_all _ 0 one rfl (List.length_pos_iff.mpr hn) .refl (come_start h hn)
/-- all texts of so many signs of some -/
def allW (S : List Nat) : Nat → List (List Nat)
  | 0 => [[]]
  | n + 1 => S.flatMap fun c => (allW S n).map (c :: ·)
theorem allW_mem {S : List Nat} : ∀ {n : Nat} {r : List Nat}, r ∈ allW S n ↔ r.length = n ∧ ∀ c ∈ r, c ∈ S
  | 0, r => by
    simp [allW]
    rintro rfl; simp
  | n + 1, r => by
    have ih := fun r => allW_mem (S := S) (n := n) (r := r)
    simp only [allW, List.mem_flatMap, List.mem_map]
    constructor
    · rintro ⟨c, hc, t, ht, rfl⟩
      obtain ⟨h1, h2⟩ := (ih t).mp ht
      exact ⟨by simp [h1], fun x hx => (List.mem_cons.mp hx).elim (fun e => e ▸ hc) (h2 x)⟩
    · rintro ⟨h1, h2⟩
      cases r with
      | nil => simp at h1
      | cons c t => exact ⟨c, h2 c (List.mem_cons_self ..), t, (ih t).mpr ⟨by simpa using h1, fun x hx => h2 x (List.mem_cons_of_mem _ hx)⟩, rfl⟩
theorem allW_len (S : List Nat) : ∀ n, (allW S n).length = S.length ^ n
  | 0 => rfl
  | n + 1 => by
    have ih := allW_len S n
    simp only [allW, List.length_flatMap, List.length_map, ih]
    rw [List.map_const', List.sum_replicate_nat, Nat.pow_succ, Nat.mul_comm]
theorem len_leG {α : Type} [DecidableEq α] : ∀ {l m : List α}, l.Nodup → (∀ x ∈ l, x ∈ m) → l.length ≤ m.length
  | [], _, _, _ => Nat.zero_le _
  | x :: l, m, hl, h => by
    obtain ⟨h1, h2⟩ := List.nodup_cons.mp hl
    have hx := h x (List.mem_cons_self ..)
    have := len_leG (m := m.erase x) h2 fun y hy => (List.mem_erase_of_ne (fun e : y = x => h1 (by rw [← e]; exact hy))).mpr (h y (List.mem_cons_of_mem _ hy))
    rw [List.length_erase_of_mem hx] at this
    have := List.length_pos_of_mem hx
    rw [List.length_cons]
    omega
/-- going through all turns: found so far, waiting; busy: the row at hand is not yet gone through -/
structure KInv (held row : List Nat) (S : List Nat) (busy : List Nat → Prop) (fl : AL) (ws : List (List Nat)) : Prop where
  nd : (fl.map (·.1)).Nodup
  me : row ∈ fl.map (·.1)
  so : ∀ r ∈ fl.map (·.1), Stir held row r
  ab : ∀ r ∈ fl.map (·.1), r.length = row.length ∧ ∀ c ∈ r, c ∈ S
  wa : ∀ r ∈ ws, r ∈ fl.map (·.1)
  al : ∀ r ∈ fl.map (·.1), r ∉ ws → ¬ busy r → ∀ q ∈ turnsM r held, turnM r q.1 q.2 ∈ fl.map (·.1)
def msK (S : List Nat) (n : Nat) (fl : AL) (ws : List (List Nat)) : Nat := 2 * (S.length ^ n - fl.length) + ws.length
section
variable {held row S : List Nat} {fl : AL} {ws : List (List Nat)}
theorem KInv.start (hS : ∀ c ∈ row, c ∈ S) {d : Dt} : KInv held row S (fun _ => False) [(row, d)] [row] where
  nd := by simp
  me := by simp
  so := fun r hr => by
    obtain rfl : r = row := by simpa using hr
    exact .refl
  ab := fun r hr => by
    obtain rfl : r = row := by simpa using hr
    exact ⟨rfl, hS⟩
  wa := fun r hr => by simpa using hr
  al := fun r hr hn _ _ _ => absurd (by simpa using hr) hn
theorem KInv.len {b : List Nat → Prop} (h : KInv held row S b fl ws) : fl.length ≤ S.length ^ row.length := by
  have := len_leG (m := allW S row.length) h.nd fun r hr => allW_mem.mpr (h.ab r hr)
  rw [List.length_map, allW_len] at this
  exact this
theorem KInv.pop {r : List Nat} (h : KInv held row S (fun _ => False) fl (ws ++ [r])) : KInv held row S (· = r) fl ws :=
  ⟨h.nd, h.me, h.so, h.ab, fun y hy => h.wa y (List.mem_append_left _ hy), fun y hy hn hb q hq => h.al y hy (fun m => (List.mem_append.mp m).elim hn fun m => hb (List.mem_singleton.mp m)) (fun z => z) q hq⟩
theorem KInv.add {r o : List Nat} {d : Dt} (h : KInv held row S (· = r) fl ws) (hr : r ∈ fl.map (·.1)) {q : Nat × Nat} (hq : q ∈ turnsM r held) (ho : o = turnM r q.1 q.2) (hn : o ∉ fl.map (·.1)) : KInv held row S (· = r) (putD fl o d) (ws ++ [o]) ∧ msK S row.length (putD fl o d) (ws ++ [o]) < msK S row.length fl ws := by
  have hst : Stir held row o := ho ▸ .step (h.so r hr) (show (q.1, q.2) ∈ _ from hq)
  have key : ∀ {x}, x ∈ (putD fl o d).map (·.1) ↔ x = o ∨ x ∈ fl.map (·.1) := putD_key
  have hab : o.length = row.length ∧ ∀ c ∈ o, c ∈ S := by
    refine ⟨hst.len, fun c hc => ?_⟩
    have h2 : c ∈ r := by
      have : Stir held r o := ho ▸ .step .refl (show (q.1, q.2) ∈ _ from hq)
      exact this.mem hc
    exact (h.ab r hr).2 c h2
  have h2 : KInv held row S (· = r) (putD fl o d) (ws ++ [o]) := by
    refine ⟨putD_keys h.nd, key.mpr (.inr h.me), fun x hx => ?_, fun x hx => ?_, fun x hx => ?_, fun x hx hw hb q2 hq2 => ?_⟩
    · rcases key.mp hx with rfl | hx
      · exact hst
      · exact h.so x hx
    · rcases key.mp hx with rfl | hx
      · exact hab
      · exact h.ab x hx
    · rcases List.mem_append.mp hx with hx | hx
      · exact key.mpr (.inr (h.wa x hx))
      · exact key.mpr (.inl (List.mem_singleton.mp hx))
    · rcases key.mp hx with rfl | hx
      · exact absurd (List.mem_append_right _ (List.mem_singleton.mpr rfl)) hw
      · exact key.mpr (.inr (h.al x hx (fun m => hw (List.mem_append_left _ m)) hb q2 hq2))
  refine ⟨h2, ?_⟩
  have l1 := h2.len
  rw [putD_fresh hn] at l1
  unfold msK
  rw [putD_fresh hn, List.length_append, List.length_append]
  rw [List.length_append] at l1
  simp at l1 ⊢
  omega
theorem KInv.done {r : List Nat} (h : KInv held row S (· = r) fl ws) (hr : ∀ q ∈ turnsM r held, turnM r q.1 q.2 ∈ fl.map (·.1)) : KInv held row S (fun _ => False) fl ws :=
  ⟨h.nd, h.me, h.so, h.ab, h.wa, fun y hy hn _ q hq => by
    by_cases e : y = r
    · subst e; exact hr q hq
    · exact h.al y hy hn e q hq⟩
end
end Lt
namespace Lt
open PySem PySem.Spec PyProof.Rows L2 Evl
open SX (S)
variable [ZI]
theorem name_two (x y : Nat) : nameM [x, y] = pairM x y := by
  unfold nameM pairM
  rw [show [x, y].reverse = [y, x] from rfl]
  have e : ([y, x] < [x, y]) ↔ y < x := by
    rw [List.cons_lt_cons_iff]
    constructor
    · rintro (h | ⟨h1, h2⟩)
      · exact h
      · subst h1; exact absurd h2 (List.lt_irrefl _)
    · exact .inl
  by_cases h : y < x
  · rw [if_pos (e.mpr h), if_neg (by omega)]
  · rw [if_neg (fun z => h (e.mp z)), if_pos (by omega)]
theorem scan_nil : ∀ (l : List Nat) (x : Nat) (cs : List (List Nat)), (l.foldl (scF []) (some [x], cs)).1 = some [lastM (x :: l)] ∧ (l.foldl (scF []) (some [x], cs)).2.map nameM = cs.map nameM ++ adjM (x :: l)
  | [], x, cs => ⟨rfl, by simp [adjM]⟩
  | y :: l, x, cs => by
    have e : scF [] (some [x], cs) y = (some [y], cs ++ [[x] ++ [y]]) := scF_some (by simp)
    rw [List.foldl_cons, e]
    obtain ⟨h1, h2⟩ := scan_nil l y (cs ++ [[x] ++ [y]])
    refine ⟨by rw [h1, lastM_cons], ?_⟩
    rw [h2, List.map_append, adjM_cons, List.append_assoc]
    simp [name_two]
theorem thr_nil (x : Nat) (l : List Nat) : headM (x :: l) [] = [x] ∧ midM (x :: l) [] = sortT (adjM (x :: l)) ∧ tailM (x :: l) [] = [lastM (x :: l)] := by
  have hs : scan [] (x :: l) = l.foldl (scF []) (some [x], []) := by
    unfold scan
    rw [List.foldl_cons, scF_none (by simp)]
  obtain ⟨h1, h2⟩ := scan_nil l x []
  refine ⟨by rw [headM_hd]; simp [hdM], ?_, ?_⟩
  · rw [midM_scan, hs, h2]; rfl
  · rw [tailM_scan, hs, h1]; rfl
theorem kin_thr {a b : List Nat} (h : KinM a b) : thrD a [] = thrD b [] := by
  cases a with
  | nil =>
    have := h.1
    obtain rfl : b = [] := List.eq_nil_of_length_eq_zero (by simpa using this.symm)
    rfl
  | cons x a =>
    cases b with
    | nil => have := h.1; simp at this
    | cons y b =>
      have e : x = y := by simpa using h.2.1
      subst e
      obtain ⟨a1, a2, a3⟩ := thr_nil x a
      obtain ⟨b1, b2, b3⟩ := thr_nil x b
      exact thrD_of (by rw [a1, b1]) (by rw [a2, b2]; exact sortT_perm h.2.2) (by rw [a3, b3, h.last])
theorem kin_stir {row r : List Nat} : Stir [] row r ↔ KinM row r := by
  constructor
  · intro s
    refine ⟨s.len.symm, ?_, s.adj.symm⟩
    have hl := s.len
    have ht := (thrD_inj s.thr).1
    cases row with
    | nil => obtain rfl : r = [] := List.eq_nil_of_length_eq_zero (by simpa using hl)
             rfl
    | cons x row =>
      cases r with
      | nil => simp at hl
      | cons y r =>
        rw [(thr_nil x row).1, (thr_nil y r).1] at ht
        simp at ht ⊢
        exact ht.symm
  · exact fun h => stir_iff.mpr (kin_thr h)
end Lt
namespace Lt
open PySem PySem.Spec PyProof.Rows L2 Evl
open SX (S)
variable [ZI]
/-- no more than so many rows are kin -/
def KinB (row : List Nat) (B : Nat) : Prop := ∀ l : List (List Nat), l.Nodup → (∀ r ∈ l, KinM row r) → l.length ≤ B
theorem kin_app {A B C : List Nat} (h : KinM B C) : KinM (A ++ B) (A ++ C) := by
  cases B with
  | nil => obtain rfl : C = [] := List.eq_nil_of_length_eq_zero (by simpa using h.1.symm)
           exact .refl _
  | cons x B =>
    cases C with
    | nil => have := h.1; simp at this
    | cons y C =>
      have e : x = y := by simpa using h.2.1
      subst e
      refine ⟨by have := h.1; simp at this ⊢; exact this, by cases A <;> rfl, ?_⟩
      rw [adjM_app A x B, adjM_app A x C]
      exact List.Perm.append (.refl _) h.2.2
/-- a piece of the way: signs so far, pairs left -/
abbrev PcR := List Nat × AL
def GoodR (row : List Nat) (p : PcR) : Prop := ∃ q c t, p.1 = q ++ [c] ∧ PosW p.2 (adjM (c :: t)) ∧ KinM row (q ++ c :: t)
noncomputable def moreR (p : PcR) : List PcR := (nextM p.2 (lastM p.1)).map fun c => (p.1 ++ [c], lessD p.2 (pairM (lastM p.1) c))
noncomputable def stepR (f : List PcR) : List PcR := f.flatMap moreR
noncomputable def goR (row : List Nat) : Nat → List PcR
  | 0 => [(row.take 1, pairsM row)]
  | n + 1 => stepR (goR row n)
theorem lt_app : ∀ {a b x y : List Nat}, a.length = b.length → a < b → a ++ x < b ++ y
  | [], b, x, y, hl, h => by
    obtain rfl : b = [] := List.eq_nil_of_length_eq_zero (by simpa using hl.symm)
    exact absurd h (List.lt_irrefl _)
  | c :: a, [], x, y, hl, h => by simp at hl
  | c :: a, d :: b, x, y, hl, h => by
    rw [List.cons_lt_cons_iff] at h
    rw [List.cons_append, List.cons_append, List.cons_lt_cons_iff]
    rcases h with h | ⟨h1, h2⟩
    · exact .inl h
    · exact .inr ⟨h1, lt_app (by simpa using hl) h2⟩
theorem lt_snoc (p : List Nat) {a b : Nat} (h : a < b) : p ++ [a] < p ++ [b] := by
  induction p with
  | nil => rw [List.nil_append, List.nil_append, List.cons_lt_cons_iff]; exact .inl h
  | cons c p ih => rw [List.cons_append, List.cons_append, List.cons_lt_cons_iff]; exact .inr ⟨rfl, ih⟩
theorem lastM_snoc (q : List Nat) (c : Nat) : lastM (q ++ [c]) = c := by simp [lastM]
section
variable {row : List Nat} (hr : RowOk row)
include hr
theorem good_more {p : PcR} (h : GoodR row p) {x : PcR} (hx : x ∈ moreR p) : GoodR row x ∧ x.1.length = p.1.length + 1 := by
  obtain ⟨q, c, t, e, hP, hk⟩ := h
  obtain ⟨o, ho, rfl⟩ := List.mem_map.mp hx
  rw [e, lastM_snoc] at ho ⊢
  have hkr := hk.row hr
  have ha : ∀ z ∈ c :: t, z ∈ abcS := fun z hz => hkr.2.2 z (List.mem_append_right _ hz)
  have hl : (adjM (c :: t)).length ≤ 100 := by
    have := hkr.2.1
    rw [adj_len]; simp at this ⊢; omega
  obtain ⟨h1, t', h2⟩ := (next_mem hP hl (adj_ok ha) (.refl _)).mp ho
  have hin : pairM c o ∈ adjM (c :: t) := h2.mem_iff.mpr (by rw [adjM_cons]; exact List.mem_cons_self ..)
  refine ⟨⟨q ++ [c], o, t', rfl, (hP.less hin).perm ?_, ?_⟩, by simp⟩
  · have := h2.erase (pairM c o)
    rwa [adjM_cons c o t', List.erase_cons_head] at this
  · refine hk.trans ?_
    have h3 : KinM (c :: t) (c :: o :: t') := ⟨by have := h2.length_eq; rw [adj_len, adj_len] at this; simp at this ⊢; exact this, rfl, h2⟩
    have := kin_app (A := q) h3
    simpa using this
theorem go_good : ∀ n, ∀ p ∈ goR row n, GoodR row p ∧ p.1.length = n + 1
  | 0, p, hp => by
    obtain rfl : p = (row.take 1, pairsM row) := by simpa [goR] using hp
    cases row with
    | nil => have := hr.1; simp at this
    | cons c t => exact ⟨⟨[], c, t, rfl, pairs_pos _, .refl _⟩, rfl⟩
  | n + 1, p, hp => by
    obtain ⟨x, hx, hp⟩ := List.mem_flatMap.mp hp
    obtain ⟨g1, g2⟩ := go_good n x hx
    obtain ⟨k1, k2⟩ := good_more hr g1 hp
    exact ⟨k1, by rw [k2, g2]⟩
theorem go_all {u : List Nat} (hu : KinM row u) : ∀ n, n < row.length → ∃ p ∈ goR row n, p.1 = u.take (n + 1)
  | 0, _ => by
    refine ⟨_, List.mem_singleton.mpr rfl, ?_⟩
    cases row with
    | nil => have := hr.1; simp at this
    | cons c t =>
      cases u with
      | nil => have := hu.1; simp at this
      | cons x u =>
        have : c = x := by simpa using hu.2.1
        subst this; rfl
  | n + 1, hn => by
    obtain ⟨p, hp, e⟩ := go_all hu n (by omega)
    obtain ⟨⟨q, c, t, e1, hP, hk⟩, _⟩ := go_good hr n p hp
    have hul : u.length = row.length := hu.1.symm
    have hlq : q.length = n := by
      have := congrArg List.length (e1.symm.trans e)
      simp at this; omega
    have hget : u[n + 1]? = some (u[n + 1]'(by omega)) := List.getElem?_eq_getElem (by omega)
    generalize (u[n + 1]'(by omega)) = o at hget
    have eu : u = q ++ c :: o :: u.drop (n + 2) := by
      have h1 := (List.take_append_drop (n + 1) u).symm
      rw [← e, e1] at h1
      have h2 : u.drop (n + 1) = o :: u.drop (n + 2) := by
        obtain ⟨hlt, hv⟩ := List.getElem?_eq_some_iff.mp hget
        rw [← hv, List.getElem_cons_drop hlt]
      rw [h2] at h1
      simpa using h1
    have hkr := hk.row hr
    have ha : ∀ z ∈ c :: t, z ∈ abcS := fun z hz => hkr.2.2 z (List.mem_append_right _ hz)
    have hl : (adjM (c :: t)).length ≤ 100 := by
      have := hkr.2.1
      rw [adj_len]; simp at this ⊢; omega
    have hperm : (adjM (c :: t)).Perm (adjM (c :: o :: u.drop (n + 2))) := by
      have h3 := (hk.symm.trans hu).2.2
      rw [eu, adjM_app q c t, adjM_app q c (o :: u.drop (n + 2))] at h3
      exact (List.perm_append_left_iff _).mp h3
    have ho : o ∈ nextM p.2 c := (next_mem hP hl (adj_ok ha) (.refl _)).mpr ⟨(hu.row hr).2.2 o (List.mem_of_getElem? hget), _, hperm⟩
    refine ⟨(p.1 ++ [o], lessD p.2 (pairM (lastM p.1) o)), List.mem_flatMap.mpr ⟨p, hp, List.mem_map.mpr ⟨o, by rw [e1, lastM_snoc]; exact ho, rfl⟩⟩, ?_⟩
    show p.1 ++ [o] = _
    rw [e, List.take_add_one (i := n + 1), hget]; rfl
theorem go_rise : ∀ n, ((goR row n).map (·.1)).Pairwise (· < ·)
  | 0 => by simp [goR]
  | n + 1 => by
    have ih := go_rise n
    have hlen : ∀ p ∈ goR row n, p.1.length = n + 1 := fun p hp => (go_good hr n p hp).2
    show ((goR row n).flatMap moreR |>.map (·.1)).Pairwise (· < ·)
    generalize goR row n = f at ih hlen
    induction f with
    | nil => simp
    | cons p f ihf =>
      rw [List.flatMap_cons, List.map_append]
      rw [List.map_cons, List.pairwise_cons] at ih
      refine List.pairwise_append.mpr ⟨?_, ihf ih.2 fun x hx => hlen x (List.mem_cons_of_mem _ hx), ?_⟩
      · unfold moreR
        rw [List.map_map, List.pairwise_map]
        have hs : (nextM p.2 (lastM p.1)).Pairwise (· < ·) := List.Pairwise.sublist (nextM_sub _ _) (show abcS.Pairwise (· < ·) by decide)
        refine hs.imp fun {a b} hab => ?_
        show p.1 ++ [a] < p.1 ++ [b]
        exact lt_snoc _ hab
      · intro x hx y hy
        obtain ⟨x', hx', rfl⟩ := List.mem_map.mp hx
        obtain ⟨y', hy', rfl⟩ := List.mem_map.mp hy
        obtain ⟨o, _, rfl⟩ := List.mem_map.mp hx'
        obtain ⟨z, hz, hy2⟩ := List.mem_flatMap.mp hy'
        obtain ⟨o2, _, rfl⟩ := List.mem_map.mp hy2
        have h1 := ih.1 z.1 (List.mem_map.mpr ⟨z, hz, rfl⟩)
        have l1 := hlen p (List.mem_cons_self ..)
        have l2 := hlen z (List.mem_cons_of_mem _ hz)
        show p.1 ++ [o] < z.1 ++ [o2]
        exact lt_app (l1.trans l2.symm) h1
/-- behind the last step: all kin, rising -/
theorem go_end : let kin := (goR row (row.length - 1)).map (·.1)
    kin.Pairwise (fun a b => leT a b = true) ∧ kin.Nodup ∧ ∀ r, r ∈ kin ↔ KinM row r := by
  have h1 := go_rise hr (row.length - 1)
  have hl := hr.1
  refine ⟨h1.imp fun {a b} h => decide_eq_true (List.le_of_lt h), h1.imp (S := fun a b => a ≠ b) fun {a b} h e => List.lt_irrefl b (by rw [e] at h; exact h), fun r => ?_⟩
  constructor
  · intro h
    obtain ⟨p, hp, rfl⟩ := List.mem_map.mp h
    obtain ⟨⟨q, c, t, e, _, hk⟩, h2⟩ := go_good hr _ p hp
    have h3 := hk.1
    rw [e] at h2 ⊢
    simp at h2 h3
    obtain rfl : t = [] := List.eq_nil_of_length_eq_zero (by omega)
    exact hk
  · intro h
    obtain ⟨p, hp, e⟩ := go_all hr h (row.length - 1) (by omega)
    rw [List.take_of_length_le (by rw [← h.1]; omega)] at e
    exact List.mem_map.mpr ⟨p, hp, e⟩
end
theorem rise_same {a b : List (List Nat)} (ha : a.Pairwise (fun x y => leT x y = true)) (hb : b.Pairwise (fun x y => leT x y = true)) (na : a.Nodup) (nb : b.Nodup) (h : ∀ r, r ∈ a ↔ r ∈ b) : a = b :=
  List.Perm.eq_of_pairwise (le := fun a b => leT a b = true) (fun a b _ _ => leT_anti) ha hb ((List.perm_ext_iff_of_nodup na nb).mpr h)
end Lt
namespace Lt
open PySem PySem.Spec PyProof.Rows L2 Evl
open SX (S)
variable [ZI]
def inT (w u : List Nat) : Bool := !(PySem.Builtin.Str.occurrences (S u) (S w) 0 (S u).length 1).isEmpty
def zInT (x y : Dt) (R : DQ) : Prop := match x, y with
  | .str w, .str u => R false (.bl (inT w u))
  | _, _ => False
theorem zInT_s {w u : List Nat} {R : DQ} : zInT (.str w) (.str u) R = R false (.bl (inT w u)) := rfl
def zNotInT (x y : Dt) (R : DQ) : Prop := match x, y with
  | .str w, .str u => R false (.bl (!inT w u))
  | _, _ => False
theorem zNotInT_s {w u : List Nat} {R : DQ} : zNotInT (.str w) (.str u) R = R false (.bl (!inT w u)) := rfl
theorem merge_key : ∀ (more al : AL) (k : List Nat), k ∈ (more.foldl (fun acc p => putD acc p.1 p.2) al).map (·.1) ↔ k ∈ al.map (·.1) ∨ k ∈ more.map (·.1)
  | [], al, k => by simp
  | p :: more, al, k => by
    rw [List.foldl_cons, merge_key more, putD_key, List.map_cons, List.mem_cons]
    constructor
    · rintro ((h | h) | h)
      · exact .inr (.inl h)
      · exact .inl h
      · exact .inr (.inr h)
    · rintro (h | h | h)
      · exact .inl (.inr h)
      · exact .inl (.inl h)
      · exact .inr h
theorem merge_nd : ∀ (more al : AL), (al.map (·.1)).Nodup → ((more.foldl (fun acc p => putD acc p.1 p.2) al).map (·.1)).Nodup
  | [], al, h => h
  | p :: more, al, h => by
    rw [List.foldl_cons]
    exact merge_nd more _ (putD_keys h)
/-- sorted(dict of keys) is sorted(set of keys) -/
theorem sort_merge (l : List (List Nat)) (d : Dt) : sortT ((mergeD (l.map fun k => (k, d))).map (·.1)) = setT l := by
  have hk : ∀ k, k ∈ (mergeD (l.map fun k => (k, d))).map (·.1) ↔ k ∈ l := fun k => by
    unfold mergeD
    rw [merge_key, List.map_map]
    simp
  refine rise_same (sortT_sorted _) (sortT_sorted _) ((List.mergeSort_perm _ _).nodup_iff.mpr (merge_nd _ _ (by simp))) (setT_nodup l) fun r => ?_
  rw [setT_mem]
  unfold sortT
  rw [List.mem_mergeSort, hk]
theorem merge_len : ∀ (more al : AL), (more.foldl (fun acc p => putD acc p.1 p.2) al).length ≤ al.length + more.length
  | [], al => Nat.le_refl _
  | p :: more, al => by
    rw [List.foldl_cons]
    have h1 := merge_len more (putD al p.1 p.2)
    have h2 := putD_len al p.1 p.2
    rw [List.length_cons]
    omega
end Lt
namespace Lt
open PySem PySem.Spec PyProof.Rows L2 Evl
open SX (S)
variable [ZI]
structure KinL (row : List Nat) (kin : List (List Nat)) : Prop where
  ris : kin.Pairwise (fun a b => leT a b = true)
  nd : kin.Nodup
  mem : ∀ r, r ∈ kin ↔ KinM row r
section
variable {row : List Nat} {kin kin' : List (List Nat)}
theorem KinL.go (hr : RowOk row) : KinL row ((goR row (row.length - 1)).map (·.1)) := let ⟨a, b, c⟩ := go_end hr; ⟨a, b, c⟩
theorem KinL.self (h : KinL row kin) : row ∈ kin := (h.mem row).mpr (.refl _)
theorem KinL.ok (h : KinL row kin) (hr : RowOk row) {u : List Nat} (hu : u ∈ kin) : RowOk u ∧ u.length = row.length := ⟨((h.mem u).mp hu).row hr, ((h.mem u).mp hu).1.symm⟩
end
end Lt
namespace Lt
open PySem PySem.Spec PyProof.Rows L2 Evl
open SX (S)
variable [ZI]
inductive Shp : Nat → Dt → Prop
  | non {n} : Shp (n + 1) .non
  | bl {n b} : Shp (n + 1) (.bl b)
  | int {n i} : Shp (n + 1) (.int i)
  | str {n l} : okT l → Shp (n + 1) (.str l)
  | lst {n} {ds : List Dt} : ds.length ≤ 100000 → (∀ d ∈ ds, Shp n d) → Shp (n + 1) (.lst ds)
  | tup {n} {ds : List Dt} : ds.length ≤ 100000 → (∀ d ∈ ds, Shp n d) → Shp (n + 1) (.tup ds)
  | tpk {n} {ds : List Dt} : ds.length ≤ 100000 → (∀ d ∈ ds, Shp n d) → Shp (n + 1) (.tpk ds)
theorem toPs_mapS : ∀ ds : List Dt, toPs ds = ds.map toP
  | [] => rfl
  | d :: ds => by unfold toPs; rw [toPs_mapS ds]; rfl
theorem Shp.alk {n : Nat} {d : Dt} (h : Shp n d) : alk n (toP d) = true := by
  have key : ∀ (n : Nat) (ds : List Dt), ds.length ≤ 100000 → (∀ d ∈ ds, Lt.alk n (toP d) = true) → (decide ((toPs ds).length ≤ 100000) && (toPs ds).all (Lt.alk n)) = true := fun n ds hl ih => by
    rw [toPs_mapS, List.length_map, decide_eq_true hl, Bool.true_and, List.all_map, List.all_eq_true]
    exact fun d hd => ih d hd
  induction h with
  | non => rfl
  | bl => rfl
  | int => rfl
  | str _ => rfl
  | lst hl _ ih => unfold toP Lt.alk; exact key _ _ hl ih
  | tup hl _ ih => unfold toP Lt.alk; exact key _ _ hl ih
  | tpk hl _ ih => unfold toP Lt.alk; exact key _ _ hl ih
theorem Shp.cmp {n : Nat} {d : Dt} (h : Shp n d) : ∀ m, n ≤ m → cmpOk m d = true := by
  induction h with
  | non => intro m hm; cases m with
    | zero => omega
    | succ m => rfl
  | bl => intro m hm; cases m with
    | zero => omega
    | succ m => rfl
  | int => intro m hm; cases m with
    | zero => omega
    | succ m => rfl
  | str ho => intro m hm; cases m with
    | zero => omega
    | succ m => exact cmpOk_str ho
  | lst hl _ ih => intro m hm; cases m with
    | zero => omega
    | succ m => unfold cmpOk; exact cmpOks_of fun d hd => ih d hd m (by omega)
  | tup hl _ ih => intro m hm; cases m with
    | zero => omega
    | succ m => unfold cmpOk; exact cmpOks_of fun d hd => ih d hd m (by omega)
  | tpk hl _ ih => intro m hm; cases m with
    | zero => omega
    | succ m => unfold cmpOk; exact cmpOks_of fun d hd => ih d hd m (by omega)
/-- what the law's own comparison asks -/
theorem Shp.like {d : Dt} (h : Shp 12 d) : Lt.alk 12 (toP d) = true ∧ cmpOk 60 d = true := ⟨h.alk, h.cmp 60 (by omega)⟩
theorem shp_all {n : Nat} {d : Dt} {ds : List Dt} : (∀ x ∈ d :: ds, Shp n x) ↔ Shp n d ∧ ∀ x ∈ ds, Shp n x := by simp
theorem shp_nil {n : Nat} : ∀ x ∈ ([] : List Dt), Shp n x := fun _ h => nomatch h
theorem shp_cons {n : Nat} {d : Dt} {ds : List Dt} (h : Shp n d) (k : ∀ x ∈ ds, Shp n x) : ∀ x ∈ d :: ds, Shp n x := shp_all.mpr ⟨h, k⟩
end Lt
namespace Lt
open PySem PySem.Spec PyProof.Rows L2 Evl
open SX (S)
variable [ZI]
def splitM (c : Nat) : List Nat → List (List Nat)
  | [] => [[]]
  | x :: l => if x = c then [] :: splitM c l else match splitM c l with
    | p :: ps => (x :: p) :: ps
    | [] => [[x]]
theorem splitM_ne (c : Nat) : ∀ l, splitM c l ≠ []
  | [] => by simp [splitM]
  | x :: l => by
    unfold splitM
    split
    · simp
    · split <;> simp
theorem splitM_free {c : Nat} : ∀ {p : List Nat}, c ∉ p → splitM c p = [p]
  | [], _ => rfl
  | x :: p, h => by
    have h1 : x ≠ c := fun e => h (by rw [e]; exact List.mem_cons_self ..)
    have h2 := splitM_free (p := p) fun z => h (List.mem_cons_of_mem _ z)
    unfold splitM
    rw [if_neg h1, h2]
theorem splitM_cat {c : Nat} : ∀ {p : List Nat} (r : List Nat), c ∉ p → splitM c (p ++ c :: r) = p :: splitM c r
  | [], r, _ => by
    show splitM c (c :: r) = _
    conv => lhs; unfold splitM
    rw [if_pos rfl]
  | x :: p, r, h => by
    have h1 : x ≠ c := fun e => h (by rw [e]; exact List.mem_cons_self ..)
    have h2 := splitM_cat (p := p) r fun z => h (List.mem_cons_of_mem _ z)
    show splitM c (x :: (p ++ c :: r)) = _
    conv => lhs; unfold splitM
    rw [if_neg h1, h2]
theorem splitM_join (c : Nat) : ∀ (ps : List Str), ps ≠ [] → (∀ p ∈ ps, c ∉ p.cps.toList) → splitM c (Str.join ⟨#[c]⟩ ps).cps.toList = ps.map fun p => p.cps.toList
  | [], h, _ => absurd rfl h
  | [p], _, h => splitM_free (h p (List.mem_singleton.mpr rfl))
  | p :: q :: r, _, h => by
    have ih := splitM_join c (q :: r) (by simp) fun x hx => h x (List.mem_cons_of_mem _ hx)
    have e : (Str.join ⟨#[c]⟩ (p :: q :: r)).cps.toList = p.cps.toList ++ c :: (Str.join ⟨#[c]⟩ (q :: r)).cps.toList := by
      show (p ++ ⟨#[c]⟩ ++ Str.join ⟨#[c]⟩ (q :: r)).cps.toList = _
      rw [PySem.Str.cps_append, PySem.Str.cps_append]
      simp
    rw [e, splitM_cat _ (h p (List.mem_cons_self ..)), ih]
    rfl
theorem split_eq (l : List Nat) (c : Nat) : Txt.split (S l) (S [c]) = (splitM c l).map S := by
  have hj := PySem.StrLaws.join_split (S l) ⟨#[c]⟩
  have hf := PySem.StrLaws.split_free (S l) c
  have hn : Txt.split (S l) ⟨#[c]⟩ ≠ [] := fun e => by
    have := PyProof.Rows.split_pos (S l) ⟨#[c]⟩
    rw [e] at this
    cases this
  have h := splitM_join c _ hn hf
  rw [hj, S_list] at h
  rw [h, List.map_map]
  have : (S ∘ fun (p : PySem.Str) => p.cps.toList) = id := funext fun p => by
    cases p
    simp [S]
  rw [this, List.map_id]
def rSplitS : V → List V → Hp → VK → Prop := fun x xs H Q => ∃ a b, x = .str a ∧ xs = [.str b] ∧ (b.length == 0) = false ∧ a.length + 2 ≤ sizeLine ∧ rNewStrs (Txt.split a b) H Q
theorem mt_splitS {X : Cx} : MtR X "str.split" rSplitS := mt_split
def zSplitS (x y : Dt) (R : DQ) : Prop := match x, y with
  | .str l, .str [c] => l.length ≤ 16000000 ∧ R true (.lst ((splitM c l).map .str))
  | _, _ => False
theorem z_splitS : OpZ (fun x y H Q => rSplitS x [y] H Q) zSplitS := by
  intro c L H x y dx dy Q R h wx wy hr k
  unfold zSplitS at hr
  split at hr
  · rename_i l c0
    obtain ⟨hl, hr⟩ := hr
    obtain rfl := wx.scal_str h
    obtain rfl := wy.scal_str h
    refine ⟨S l, S [c0], rfl, rfl, rfl, by rw [S_length, sizeLine_eq]; omega, fun p hp => ?_⟩
    rw [split_eq, List.map_map]
    exact k _ _ _ _ hr (h.newL (FrAll.strs _) hp (Ex.new hp) upd_same)
  · exact hr.elim
theorem zSplitS_s {l : List Nat} {c : Nat} {R : DQ} : zSplitS (.str l) (.str [c]) R = (l.length ≤ 16000000 ∧ R true (.lst ((splitM c l).map .str))) := rfl
theorem zIx_k {ds : List Dt} {y : Dt} {R : DQ} : zIx (.tpk ds) y R = zIx (.tup ds) y R := rfl
end Lt
namespace Lt
open PySem PySem.Spec PyProof.Rows L2 Evl
open SX (S)
variable [ZI]
abbrev TBo := Addr → L2.St → Hp → (Hp → Prop) → Prop
abbrev PTBo (α : Type) := α → PSt → (α → PSt → Prop) → Prop
def CBo {α : Type} (mk : α → Dt) (tb : TBo) (pb : PTBo α) : Prop := ∀ (c : Ctx) (F : List Pc) (s : PSt) (σ : L2.St) (H : Hp) (D : Addr) (acc : α) (N : Hp → Prop) (R : α → PSt → Prop),
  Rel c s σ ((.ow (mk acc), some (.ref D)) :: F) H → pb acc s R → (∀ acc' s' H', R acc' s' → Rel c s' σ ((.ow (mk acc'), some (.ref D)) :: F) H' → N H') → tb D σ H N
def OwGoal {α : Type} (gp : PTG) (tt : PTT) (pb : PTBo α) (vs : List Nat) (items : List Dt) (acc0 : α) (s1 : PSt) (R : α → PSt → Prop) : Prop := ∃ G : Nat → α → Prop, G 0 acc0 ∧
  (∀ i d acc, items[i]? = some d → G i acc → gp d (wipeS s1 vs) fun s2 => tt s2 fun b s3 => if b = true then pb acc s3 fun acc' s4 => wipeS s4 vs = wipeS s1 vs ∧ G (i + 1) acc' else wipeS s3 vs = wipeS s1 vs ∧ G (i + 1) acc) ∧
  ∀ acc, G items.length acc → R acc (wipeS s1 vs)
theorem ow_loop {α : Type} {mk : α → Dt} {c : Ctx} {J : It} {items : List Dt} {F F' : List Pc} {g : TG} {gp : PTG} {tt : TT} {pt : PTT} {tb : TBo} {pb : PTBo α} {vs : List Nat} {s1 : PSt} {σ : L2.St} {D : Addr} {acc0 : α} {H1 : Hp} {R : α → PSt → Prop} {Qd : Hp → Prop}
    (z : ItZ c J items F') (hg : ∀ c, CG c vs g gp) (ht : ∀ c, CT c tt pt) (hb : CBo mk tb pb) (h1 : Rel c s1 σ (F' ++ ((.ow (mk acc0), some (.ref D)) :: F)) H1) (hp : OwGoal gp pt pb vs items acc0 s1 R)
    (k : ∀ acc H, R acc (wipeS s1 vs) → Rel c (wipeS s1 vs) σ (F' ++ ((.ow (mk acc), some (.ref D)) :: F)) H → Qd H) :
    ∃ W : Nat → Nat → Hp → Prop, (∃ m, W 0 m H1) ∧ ∀ i m H, W i m H → (J.stop i H ∧ Qd H) ∨ (J.go i H ∧ ∃ N : Hp → Prop, (∀ G, N G → ∃ m', m' < m ∧ W (i + 1) m' G) ∧
      ∀ x G, J.yld i H x G → g x (L2.wipe σ vs) G fun σ2 H2 => L2.wipe σ2 vs = L2.wipe σ vs ∧ tt σ2 H2 fun b H3 => if b = true then tb D σ2 H3 N else N H3) := by
  obtain ⟨G, g0, gs, ge⟩ := hp
  refine ⟨fun i m H => m = items.length - i ∧ i ≤ items.length ∧ ∃ acc, G i acc ∧ Rel c (wipeS s1 vs) σ (F' ++ ((.ow (mk acc), some (.ref D)) :: F)) H, ⟨_, rfl, Nat.zero_le _, acc0, g0, ?_⟩, ?_⟩
  · exact Rel.unwipe (s := s1) (σ := σ) (vs := vs) h1 rfl rfl
  · rintro i m H ⟨rfl, hi, acc, ga, h2⟩
    obtain ⟨n, Gh, Y, wk, hn, hG, hY⟩ := z.ex
    have gh := hG _ _ _ _ h2
    by_cases hlt : i < items.length
    · refine .inr ⟨wk.goes i H (by omega) gh, fun G' => ∃ acc, G (i + 1) acc ∧ Rel c (wipeS s1 vs) σ (F' ++ ((.ow (mk acc), some (.ref D)) :: F)) G', fun G' ⟨acc', q1, q2⟩ => ⟨items.length - (i + 1), by omega, rfl, hlt, acc', q1, q2⟩, fun x G' y => ?_⟩
      have y := wk.yields i H x G' (by omega) gh y
      have hd : items[i]? = some items[i] := List.getElem?_eq_getElem hlt
      have h3 := hY i H x G' _ _ _ _ hd h2 y
      have h3w := Rel.wipe h3 vs
      rw [ew_s] at h3w
      refine hg _ _ (wipeS s1 vs) (L2.wipe σ vs) G' _ x _ _ h3w (gs i _ acc hd ga) fun s4 σ4 q4 h4 ew => ?_
      rw [ew_w] at ew
      refine ⟨ew, ht _ _ s4 σ4 G' _ _ h4 q4 fun b s5 H5 q5 h5 => ?_⟩
      cases b with
      | true =>
        simp only [if_true] at q5 ⊢
        exact hb c (F' ++ F) s5 σ4 H5 D acc _ _ (h5.perm List.perm_middle) q5 fun acc' s6 H6 ⟨ews, g6⟩ h6 => ⟨acc', g6, Rel.unwipe (s := s1) (h6.perm List.perm_middle.symm) ew ews⟩
      | false =>
        simp only [Bool.false_eq_true, if_false] at q5 ⊢
        exact ⟨acc, q5.2, Rel.unwipe (s := s1) h5 ew q5.1⟩
    · obtain rfl : i = items.length := by omega
      subst hn
      exact .inl ⟨wk.stops H gh, k acc H (ge acc ga) h2⟩
def pLc2 (ks : List Nat) (ip : PTI) (gp : PTG) (tt : PTT) (pb : PTBo (List Dt)) (vs : List Nat) : PTE := fun s Q => ip (frzS s ks) fun items s1 => OwGoal gp tt pb vs items [] s1 fun acc s2 => Q true (.lst acc) s2
theorem pLc2_go {ks : List Nat} {ip : PTI} {gp : PTG} {tt : PTT} {pb : PTBo (List Dt)} {vs : List Nat} {s : PSt} {Q : PQ} (h : ip (frzS s ks) fun items s1 => OwGoal gp tt pb vs items [] s1 fun acc s2 => Q true (.lst acc) s2) : pLc2 ks ip gp tt pb vs s Q := h
def tbD (tk tv : TE) : TBo := fun D σ H N => tk σ H fun y H4 => tv σ H4 fun z H5 => ∃ kvs k, y = kV k ∧ H5 D = some (.dK kvs) ∧ kvs.length < sizeLine ∧ N (upd H5 D (.dK (putK kvs k z)))
@[reducible] def pBD (tk tv : PTE) : PTBo AL := fun acc s R => tk s fun _ k s1 => match k with
  | .str k => tv s1 fun _ e s' => acc.length < 16777216 ∧ R (putD acc k e) s'
  | _ => False
theorem cb_D {tk tv : TE} {pk pv : PTE} (hk : ∀ c, CE c tk pk) (hv : ∀ c, CE c tv pv) : CBo dicD (tbD tk tv) (pBD pk pv) := fun c F s σ H D acc N R h hp k =>
  hk _ _ s σ H _ _ h hp fun b0 d0 s4 v4 H4 q4 h4 => by
    split at q4
    · rename_i kk
      obtain rfl := str_of h4
      refine hv _ _ s4 σ H4 _ _ h4.drop q4 fun b e s6 v6 H6 ⟨hl, q⟩ h6 => ?_
      have h8 : Rel c s6 σ ((.ow (dicD acc), some (.ref D)) :: (.fz e, some v6) :: F) H6 := h6.mkfz.perm (List.Perm.swap ..)
      obtain ⟨p, ep, _, ws, hx1, hx2, hx3⟩ := h8.top.own_at
      cases ep
      have hlen : ws.length = acc.length := by have := congrArg List.length hx2; simpa using this
      refine ⟨ws, .inr (S kk), rfl, hx1, by rw [hlen, sizeLine_eq]; exact hl, k _ _ _ q ?_⟩
      have hfe := h8.top.ok (.fz e, some v6) (List.mem_cons_of_mem _ (List.mem_append_right _ (List.mem_cons_self ..)))
      obtain ⟨r1, r2⟩ := put_rel (k := kk) hx2 hx3 hfe
      have hm := h8.top.mut (H' := upd H6 D (.dK (putK ws (.inr (S kk)) v6))) (d' := dicD (putD acc kk e)) ExB.upd ?_
      · exact (Rel.of_top h8.1 hm).sub (.cons_cons _ (List.sublist_cons_self _ _))
      · have hne : ∀ a o, Al c ((.ow (dicD acc), some (.ref D)) :: (s6.zip σ ++ ((.fz e, some v6) :: F))) a → H6 a = some o → Al c ((.ow (dicD acc), some (.ref D)) :: (s6.zip σ ++ ((.fz e, some v6) :: F))) a ∧ upd H6 D (.dK (putK ws (.inr (S kk)) v6)) a = some o := fun a o ha ho => ⟨ha, by
          rw [upd_ne (fun z => ha.2 (by rw [z]; exact List.mem_cons_self ..))]; exact ho⟩
        exact ⟨_, upd_same, r1, r2.mono hne⟩
    · exact q4.elim
def pDc (ks : List Nat) (ip : PTI) (gp : PTG) (tt : PTT) (pb : PTBo AL) (vs : List Nat) : PTE := fun s Q => ip (frzS s ks) fun items s1 => OwGoal gp tt pb vs items [] s1 fun acc s2 => Q true (dicD acc) s2
theorem ce_dc {c : Ctx} {wi : TI} {ip : PTI} {g : TG} {gp : PTG} {tt : TT} {pt : PTT} {tk tv : TE} {pk pv : PTE} {vs ks : List Nat} (hi : CI c wi ip) (hg : ∀ c, CG c vs g gp) (ht : ∀ c, CT c tt pt) (hk : ∀ c, CE c tk pk) (hv : ∀ c, CE c tv pv) :
    CE c (tDc wi g tt tk tv vs) (pDc ks ip gp pt (pBD pk pv) vs) := fun F s σ H Q R h hp k =>
  hi F (frzS s ks) σ H _ _ h.frzS hp fun items s1 J H1 F' goal h1 z D hD =>
    have h2 : Rel c s1 σ (F' ++ ((.ow (dicD []), some (.ref D)) :: F)) (upd H1 D (.dK [])) := Rel.perm (F := (.ow (dicD []), some (.ref D)) :: (F' ++ F)) (.of_top h1.1 (h1.2.new (Ex.new hD) hD ⟨[], upd_same, rfl, rfl⟩)) List.perm_middle.symm
    ow_loop (F := F) (mk := dicD) (tb := tbD tk tv) z hg ht (cb_D hk hv) h2 goal fun acc H' r h' => k true _ _ _ _ r (h'.sub (List.sublist_append_right _ _))
theorem pDc_go {ks : List Nat} {ip : PTI} {gp : PTG} {tt : PTT} {pb : PTBo AL} {vs : List Nat} {s : PSt} {Q : PQ} (h : ip (frzS s ks) fun items s1 => OwGoal gp tt pb vs items [] s1 fun acc s2 => Q true (dicD acc) s2) : pDc ks ip gp tt pb vs s Q := h
section
variable {α β : Type} {gp : PTG} {tt : PTT} {pb : PTBo α} {vs : List Nat} {s1 : PSt} {items : List Dt} {acc0 : α} {R : α → PSt → Prop}
theorem ow_l (l : List β) (g : β → Dt) (G : Nat → α → Prop) (e : items = l.map g) (h0 : G 0 acc0)
    (hs : ∀ i x acc, l[i]? = some x → G i acc → gp (g x) (wipeS s1 vs) fun s2 => tt s2 fun b s3 => if b = true then pb acc s3 fun acc' s4 => wipeS s4 vs = wipeS s1 vs ∧ G (i + 1) acc' else wipeS s3 vs = wipeS s1 vs ∧ G (i + 1) acc)
    (hd : ∀ acc, G l.length acc → R acc (wipeS s1 vs)) : OwGoal gp tt pb vs items acc0 s1 R := by
  subst e
  refine ⟨G, h0, ?_, by simpa using hd⟩
  rintro i d acc hd ga
  rw [List.getElem?_map] at hd
  cases hx : l[i]? with
  | none => rw [hx] at hd; cases hd
  | some x =>
    rw [hx] at hd
    cases hd
    exact hs i x acc hx ga
/-- step by step, told by a fold -/
theorem ow_f (l : List β) (g : β → Dt) (f : α → β → α) (e : items = l.map g)
    (hs : ∀ i x acc (G : α → Prop), l[i]? = some x → acc = (l.take i).foldl f acc0 → G (f acc x) → gp (g x) (wipeS s1 vs) fun s2 => tt s2 fun b s3 => if b = true then pb acc s3 fun acc' s4 => wipeS s4 vs = wipeS s1 vs ∧ G acc' else wipeS s3 vs = wipeS s1 vs ∧ G acc)
    (hd : R (l.foldl f acc0) (wipeS s1 vs)) : OwGoal gp tt pb vs items acc0 s1 R := by
  refine ow_l l g (fun i acc => acc = (l.take i).foldl f acc0) e rfl (fun i x acc hx ga => ?_) (fun acc ga => ?_)
  · refine hs i x acc (fun a => a = (l.take (i + 1)).foldl f acc0) hx ga ?_
    rw [List.take_add_one, hx, List.foldl_append, ← ga]
    rfl
  · rw [List.take_length] at ga
    subst ga
    exact hd
end
end Lt
namespace Lt
open PySem PySem.Spec PyProof.Rows L2 Evl
open SX (S)
section
variable [ZI]
def rListDk : List V → Hp → VK → Prop := fun xs H Q => ∃ (a : Addr) (kvs : List (Key × V)), xs = [.ref a] ∧ Rd H a (.dK kvs) ∧ ∀ p, H p = none → Q (.ref p) (upd H p (.lst (kvs.map fun kv => kV kv.1)))
theorem call_listDk {X : Cx} (hc : X.calm = true) : CallR X (.type "list") rListDk := call_listD hc
def zListD (x : Dt) (R : DQ) : Prop := ∃ al : AL, x = dicD al ∧ R true (.lst ((al.map (·.1)).map .str))
theorem z_listD : UnZ (fun x H Q => rListDk [x] H Q) zListD := by
  intro c L H x dx Q R h wx hr k
  obtain ⟨al, rfl, hr⟩ := hr
  obtain ⟨p, ws, rfl, g1, g2, g3⟩ := wx.rdD h
  refine ⟨p, ws, rfl, g1, fun q hq => k _ _ _ _ hr (h.newL ?_ hq (Ex.new hq) upd_same)⟩
  have e : (ws.map fun kv => kV kv.1) = (al.map (·.1)).map fun x => Tx x := by
    rw [show (ws.map fun kv => kV kv.1) = (ws.map (·.1)).map kV by rw [List.map_map]; rfl, g2, List.map_map, List.map_map]
    rfl
  rw [e]
  exact FrAll.strs _
theorem zListD_d {al : AL} {R : DQ} : zListD (dicD al) R = R true (.lst ((al.map (·.1)).map .str)) := propext ⟨fun ⟨a2, e, h⟩ => by rw [dicD_inj e]; exact h, fun h => ⟨al, rfl, h⟩⟩
/-- a ring as a row that ends with its first sign -/
def clM (r : List Nat) : List Nat := r ++ [r.headD 0]
def RotE (a b : List Nat) : Prop := ∃ A B, a = A ++ B ∧ b = B ++ A
def RingE (a b : List Nat) : Prop := RotE a b ∨ RotE a.reverse b
theorem RotE.refl (a : List Nat) : RotE a a := ⟨[], a, rfl, by simp⟩
theorem RotE.symm {a b : List Nat} (h : RotE a b) : RotE b a := let ⟨A, B, e1, e2⟩ := h; ⟨B, A, e2, e1⟩
theorem RotE.trans {a b c : List Nat} (h : RotE a b) (k : RotE b c) : RotE a c := by
  obtain ⟨A, B, rfl, rfl⟩ := h
  obtain ⟨C, D, e, rfl⟩ := k
  rcases List.append_eq_append_iff.mp e with ⟨E, rfl, rfl⟩ | ⟨E, rfl, rfl⟩
  · exact ⟨E, D ++ B, by simp, by simp⟩
  · exact ⟨A ++ C, E, by simp, by simp⟩
theorem RotE.rev {a b : List Nat} (h : RotE a b) : RotE a.reverse b.reverse := by
  obtain ⟨A, B, rfl, rfl⟩ := h
  exact ⟨B.reverse, A.reverse, by simp, by simp⟩
theorem RingE.refl (a : List Nat) : RingE a a := .inl (.refl a)
theorem RingE.rev (a : List Nat) : RingE a a.reverse := .inr (.refl _)
theorem RingE.symm {a b : List Nat} (h : RingE a b) : RingE b a := by
  rcases h with h | h
  · exact .inl h.symm
  · have := h.symm.rev
    rw [List.reverse_reverse] at this
    exact .inr this
theorem RingE.trans {a b c : List Nat} (h : RingE a b) (k : RingE b c) : RingE a c := by
  rcases h with h | h
  · rcases k with k | k
    · exact .inl (h.trans k)
    · exact .inr (h.rev.trans k)
  · rcases k with k | k
    · exact .inr (h.trans k)
    · have := h.rev
      rw [List.reverse_reverse] at this
      exact .inl (this.trans k)
theorem RotE.len {a b : List Nat} (h : RotE a b) : b.length = a.length := by
  obtain ⟨A, B, rfl, rfl⟩ := h
  simp [Nat.add_comm]
theorem RingE.len {a b : List Nat} (h : RingE a b) : b.length = a.length := by
  rcases h with h | h
  · exact h.len
  · rw [h.len, List.length_reverse]
theorem RotE.mem {a b : List Nat} (h : RotE a b) {c : Nat} : c ∈ b ↔ c ∈ a := by
  obtain ⟨A, B, rfl, rfl⟩ := h
  simp [or_comm]
theorem RingE.mem {a b : List Nat} (h : RingE a b) {c : Nat} : c ∈ b ↔ c ∈ a := by
  rcases h with h | h
  · exact h.mem
  · rw [h.mem, List.mem_reverse]
theorem RingE.ne {a b : List Nat} (h : RingE a b) (ha : a ≠ []) : b ≠ [] := fun z => ha (by
  have := h.len
  rw [z] at this
  exact List.eq_nil_of_length_eq_zero this.symm)
theorem PosW.mem_key {al : AL} {E : List (List Nat)} (h : PosW al E) {k : List Nat} : k ∈ al.map (·.1) ↔ k ∈ E := by
  constructor
  · intro hk
    obtain ⟨p, hp, rfl⟩ := List.mem_map.mp hk
    exact h.key hp
  · intro hk
    have h1 : 0 < E.count k := List.count_pos_iff.mpr hk
    rw [← h.cnt k] at h1
    unfold cntD at h1
    cases q : lkD al k with
    | none => rw [q] at h1; exact absurd h1 (Nat.lt_irrefl _)
    | some d => exact List.mem_map.mpr ⟨(k, d), lkD_mem q, rfl⟩
theorem cl_len (r : List Nat) : (clM r).length = r.length + 1 := by simp [clM]
theorem cl_rot (A B : List Nat) : (adjM (clM (A ++ B))).Perm (adjM (clM (B ++ A))) := by
  cases A with
  | nil => rw [List.nil_append, List.append_nil]
  | cons x A =>
    cases B with
    | nil => rw [List.nil_append, List.append_nil]
    | cons y B =>
      have e1 : clM (x :: A ++ y :: B) = (x :: A) ++ y :: (B ++ [x]) := by simp [clM]
      have e2 : clM (y :: B ++ x :: A) = (y :: B) ++ x :: (A ++ [y]) := by simp [clM]
      rw [e1, e2, adjM_app (x :: A) y, adjM_app (y :: B) x]
      exact List.perm_append_comm
theorem cl_rev (r : List Nat) : (adjM (clM r.reverse)).Perm (adjM (clM r)) := by
  cases r with
  | nil => rfl
  | cons x t =>
    rw [List.reverse_cons]
    refine (cl_rot t.reverse [x]).trans ?_
    have e : clM ([x] ++ t.reverse) = (clM (x :: t)).reverse := by simp [clM]
    rw [e, adjM_rev]
    exact List.reverse_perm _
theorem RingE.adj {a b : List Nat} (h : RingE a b) : (adjM (clM b)).Perm (adjM (clM a)) := by
  rcases h with ⟨A, B, rfl, rfl⟩ | ⟨A, B, e, rfl⟩
  · exact cl_rot B A
  · refine (cl_rot B A).trans ?_
    rw [← e]
    exact cl_rev a
theorem turn_app {r e : List Nat} {h t : Nat} (hh : h ≤ t) (ht : t < r.length) : turnM (r ++ e) h t = turnM r h t ++ e := by
  unfold turnM
  rw [List.take_append_of_le_length (by omega), List.drop_append_of_le_length (by omega), List.take_append_of_le_length (by rw [List.length_drop]; omega), List.drop_append_of_le_length (by omega)]
  simp only [List.append_assoc]
theorem turn_head {r : List Nat} {h t : Nat} (hh : h < t) (ht : t < r.length) (e : r.getD t 0 = r.getD h 0) : (turnM r h t).headD 0 = r.headD 0 := by
  obtain ⟨A, M, B, x, e1, e2, _⟩ := turn_form hh ht e
  rw [e1] at e2
  rw [e1, e2]
  cases A <;> rfl
theorem cl_turn {r held : List Nat} {h t : Nat} (hm : (h, t) ∈ turnsM r held) : clM (turnM r h t) = turnM (clM r) h t ∧ (h, t) ∈ turnsM (clM r) held := by
  obtain ⟨q1, q2, q3, q4⟩ := turnsM_mem hm
  have g : ∀ i, i < r.length → (clM r).getD i 0 = r.getD i 0 := fun i hi => by
    unfold clM
    rw [List.getD_eq_getElem?_getD, List.getElem?_append_left hi, ← List.getD_eq_getElem?_getD]
  refine ⟨?_, turnsM_of q1 (by rw [cl_len]; omega) ?_ ?_⟩
  · unfold clM
    rw [turn_app (by omega) q2, turn_head q1 q2 (by first | exact q4 | exact q3 | exact q3.symm | exact q4.symm)]
  · rw [g h (by omega)]
    first | exact q3 | exact q4
  · rw [g h (by omega), g t q2]
    first | exact q4 | exact q3 | exact q3.symm | exact q4.symm
theorem ring_turn {r held : List Nat} {h t : Nat} (hm : (h, t) ∈ turnsM r held) : (adjM (clM (turnM r h t))).Perm (adjM (clM r)) := by
  obtain ⟨e, h2⟩ := cl_turn hm
  rw [e]
  exact adjM_turn h2
theorem cl_mem {r : List Nat} {c : Nat} (hr : r ≠ []) : c ∈ clM r ↔ c ∈ r := by
  cases r with
  | nil => exact absurd rfl hr
  | cons x t =>
    simp only [clM, List.headD_cons, List.cons_append, List.mem_cons, List.mem_append, List.not_mem_nil, or_false]
    exact ⟨fun h => h.elim .inl fun h => h.elim .inr .inl, fun h => h.elim .inl fun h => .inr (.inl h)⟩
theorem RotE.abc {a b : List Nat} (h : RotE a b) (k : ∀ c ∈ a, c ∈ abcS) : ∀ c ∈ b, c ∈ abcS := fun c hc => k c (h.mem.mp hc)
def RingOk (r : List Nat) : Prop := 1 ≤ r.length ∧ r.length ≤ 39 ∧ ∀ c ∈ r, c ∈ abcS
theorem RingOk.ne {r : List Nat} (h : RingOk r) : r ≠ [] := fun z => by rw [z] at h; exact absurd h.1 (by decide)
theorem RingOk.cl {r : List Nat} (h : RingOk r) : RowOk (clM r) := ⟨by rw [cl_len]; omega, by rw [cl_len]; have := h.2.1; omega, fun c hc => h.2.2 c ((cl_mem h.ne).mp hc)⟩
theorem RingOk.row {r : List Nat} (h : RingOk r) : RowOk r := ⟨h.1, by have := h.2.1; omega, h.2.2⟩
theorem RingOk.turn {r held : List Nat} {h t : Nat} (k : RingOk r) (hm : (h, t) ∈ turnsM r held) : RingOk (turnM r h t) := by
  obtain ⟨q1, q2, _, _⟩ := turnsM_mem hm
  refine ⟨by rw [turnM_len (by omega) q2]; exact k.1, by rw [turnM_len (by omega) q2]; exact k.2.1, fun c hc => k.2.2 c (turnM_mem (by omega) hc)⟩
end
end Lt
namespace Lt
open PySem PySem.Spec PyProof.Rows L2 Evl
open SX (S)
section
variable [ZI]
inductive Reach (m0 : List Nat) (nx : List Nat → List (List Nat)) : List Nat → Prop
  | refl : Reach m0 nx m0
  | step {r o : List Nat} : Reach m0 nx r → o ∈ nx r → Reach m0 nx o
structure GInv (m0 : List Nat) (nx : List Nat → List (List Nat)) (U : List (List Nat)) (busy : List Nat → Prop) (fl : AL) (ws : List (List Nat)) : Prop where
  nd : (fl.map (·.1)).Nodup
  me : m0 ∈ fl.map (·.1)
  so : ∀ r ∈ fl.map (·.1), Reach m0 nx r
  wa : ∀ r ∈ ws, r ∈ fl.map (·.1)
  al : ∀ r ∈ fl.map (·.1), r ∉ ws → ¬ busy r → ∀ o ∈ nx r, o ∈ fl.map (·.1)
def msG (U : List (List Nat)) (fl : AL) (ws : List (List Nat)) : Nat := 2 * (U.length - fl.length) + ws.length
section
variable {m0 : List Nat} {nx : List Nat → List (List Nat)} {U : List (List Nat)} {fl : AL} {ws : List (List Nat)}
theorem GInv.start {d : Dt} : GInv m0 nx U (fun _ => False) [(m0, d)] [m0] where
  nd := by simp
  me := by simp
  so := fun r hr => by
    obtain rfl : r = m0 := by simpa using hr
    exact .refl
  wa := fun r hr => by simpa using hr
  al := fun r hr hn _ _ _ => absurd (by simpa using hr) hn
theorem GInv.len {b : List Nat → Prop} (hU : ∀ r, Reach m0 nx r → r ∈ U) (h : GInv m0 nx U b fl ws) : fl.length ≤ U.length := by
  have := len_leG h.nd fun r hr => hU r (h.so r hr)
  rw [List.length_map] at this
  exact this
theorem GInv.pop {r : List Nat} (h : GInv m0 nx U (fun _ => False) fl (ws ++ [r])) : GInv m0 nx U (· = r) fl ws :=
  ⟨h.nd, h.me, h.so, fun y hy => h.wa y (List.mem_append_left _ hy), fun y hy hn hb q hq => h.al y hy (fun m => (List.mem_append.mp m).elim hn fun m => hb (List.mem_singleton.mp m)) (fun z => z) q hq⟩
theorem GInv.add {r o : List Nat} {d : Dt} (hU : ∀ r, Reach m0 nx r → r ∈ U) (h : GInv m0 nx U (· = r) fl ws) (hr : r ∈ fl.map (·.1)) (ho : o ∈ nx r) (hn : o ∉ fl.map (·.1)) : GInv m0 nx U (· = r) (putD fl o d) (ws ++ [o]) ∧ msG U (putD fl o d) (ws ++ [o]) < msG U fl ws := by
  have key : ∀ {x}, x ∈ (putD fl o d).map (·.1) ↔ x = o ∨ x ∈ fl.map (·.1) := putD_key
  have h2 : GInv m0 nx U (· = r) (putD fl o d) (ws ++ [o]) := by
    refine ⟨putD_keys h.nd, key.mpr (.inr h.me), fun x hx => ?_, fun x hx => ?_, fun x hx hw hb q2 hq2 => ?_⟩
    · rcases key.mp hx with rfl | hx
      · exact .step (h.so r hr) ho
      · exact h.so x hx
    · rcases List.mem_append.mp hx with hx | hx
      · exact key.mpr (.inr (h.wa x hx))
      · exact key.mpr (.inl (List.mem_singleton.mp hx))
    · rcases key.mp hx with rfl | hx
      · exact absurd (List.mem_append_right _ (List.mem_singleton.mpr rfl)) hw
      · exact key.mpr (.inr (h.al x hx (fun m => hw (List.mem_append_left _ m)) hb q2 hq2))
  refine ⟨h2, ?_⟩
  have l1 := h2.len hU
  rw [putD_fresh hn] at l1
  unfold msG
  rw [putD_fresh hn, List.length_append, List.length_append]
  rw [List.length_append] at l1
  simp at l1 ⊢
  omega
theorem GInv.done {r : List Nat} (h : GInv m0 nx U (· = r) fl ws) (hr : ∀ o ∈ nx r, o ∈ fl.map (·.1)) : GInv m0 nx U (fun _ => False) fl ws :=
  ⟨h.nd, h.me, h.so, h.wa, fun y hy hn _ q hq => by
    by_cases e : y = r
    · subst e; exact hr q hq
    · exact h.al y hy hn e q hq⟩
end
def TurnE (a b : List Nat) : Prop := ∃ (A M B : List Nat) (x : Nat), a = A ++ x :: (M ++ x :: B) ∧ b = A ++ x :: (M.reverse ++ x :: B)
theorem turnE_to {a b : List Nat} (h : TurnE a b) : ∃ q ∈ turnsM a [], b = turnM a q.1 q.2 := by
  obtain ⟨A, M, B, x, rfl, rfl⟩ := h
  have g1 : (A ++ x :: (M ++ x :: B)).getD A.length 0 = x := by simp
  have g2 : (A ++ x :: (M ++ x :: B)).getD (A.length + M.length + 1) 0 = x := by
    rw [List.getD_eq_getElem?_getD, List.getElem?_append_right (by omega)]
    rw [show A.length + M.length + 1 - A.length = M.length + 1 by omega, List.getElem?_cons_succ, List.getElem?_append_right (Nat.le_refl _)]
    simp
  refine ⟨(A.length, A.length + M.length + 1), turnsM_of (by omega) (by simp; omega) (by simp) (by rw [g1, g2]), ?_⟩
  unfold turnM
  have e1 : (A ++ x :: (M ++ x :: B)).take A.length = A := by simp
  have e2 : (A ++ x :: (M ++ x :: B)).drop A.length = x :: (M ++ x :: B) := by simp
  have e3 : (A ++ x :: (M ++ x :: B)).drop (A.length + M.length + 1 + 1) = B := by
    rw [show A ++ x :: (M ++ x :: B) = (A ++ x :: (M ++ [x])) ++ B by simp]
    rw [List.drop_left' (by simp; omega)]
  have e4 : (x :: (M ++ x :: B)).take (A.length + M.length + 1 + 1 - A.length) = x :: (M ++ [x]) := by
    rw [show x :: (M ++ x :: B) = (x :: (M ++ [x])) ++ B by simp]
    rw [List.take_left' (by simp; omega)]
  dsimp only
  rw [e1, e2, e3, e4]
  simp
theorem ring_flip (P Q : List Nat) (x : Nat) : RingE (x :: P ++ x :: Q.reverse) (x :: P.reverse ++ x :: Q) := by
  refine .inr ⟨Q, x :: P.reverse ++ [x], ?_, ?_⟩
  · simp
  · simp
theorem TurnE.rev {a b : List Nat} (h : TurnE a b) : TurnE a.reverse b.reverse := by
  obtain ⟨A, M, B, x, rfl, rfl⟩ := h
  exact ⟨B.reverse, M.reverse, A.reverse, x, by simp, by simp⟩
theorem TurnE.cl {w u : List Nat} (h : TurnE (clM w) u) (hw : w ≠ []) : ∃ w', u = clM w' ∧ w' ≠ [] ∧ (RingE w w' ∨ ∃ v, TurnE w v ∧ RingE v w') := by
  obtain ⟨A, M, B, x, e1, rfl⟩ := h
  obtain ⟨c, w1, rfl⟩ : ∃ c t, w = c :: t := by
    cases w with
    | nil => exact absurd rfl hw
    | cons c t => exact ⟨c, t, rfl⟩
  rcases List.eq_nil_or_concat B with rfl | ⟨B', y, rfl⟩
  · have e2 : (c :: w1) ++ [c] = (A ++ x :: M) ++ [x] := by
      rw [show (c :: w1) ++ [c] = clM (c :: w1) from rfl, e1]; simp
    obtain ⟨e3, e4⟩ := List.append_inj' e2 rfl
    have e4 : c = x := by simpa using e4
    subst e4
    cases A with
    | nil =>
      have e5 : w1 = M := by simpa using e3
      subst e5
      refine ⟨c :: w1.reverse, by simp [clM], by simp, .inl (.inr ⟨w1.reverse, [c], by simp, by simp⟩)⟩
    | cons a A =>
      rw [List.cons_append] at e3
      injection e3 with e5 e6
      subst e5 e6
      refine ⟨c :: A ++ c :: M.reverse, by simp [clM], by simp, .inr ⟨c :: A.reverse ++ c :: M, ⟨[], A, M, c, by simp, by simp⟩, (ring_flip A M c).symm⟩⟩
  · have e2 : (c :: w1) ++ [c] = (A ++ x :: (M ++ x :: B')) ++ [y] := by
      rw [show (c :: w1) ++ [c] = clM (c :: w1) from rfl, e1]; simp [List.concat_eq_append]
    obtain ⟨e3, e4⟩ := List.append_inj' e2 rfl
    have e4 : c = y := by simpa using e4
    subst e4
    refine ⟨A ++ x :: (M.reverse ++ x :: B'), ?_, by simp, .inr ⟨_, ⟨A, M, B', x, e3, rfl⟩, .refl _⟩⟩
    unfold clM
    have : (A ++ x :: (M.reverse ++ x :: B')).headD 0 = c := by
      cases A with
      | nil => rw [List.nil_append] at e3 ⊢; injection e3 with e5 _; rw [e5]; rfl
      | cons a A => rw [List.cons_append] at e3 ⊢; injection e3 with e5 _; rw [e5]; rfl
    rw [this]
    simp [List.concat_eq_append]
theorem TurnE.adj {a b : List Nat} (h : TurnE a b) : (adjM (clM b)).Perm (adjM (clM a)) := by
  obtain ⟨q, hq, rfl⟩ := turnE_to h
  exact ring_turn (show (q.1, q.2) ∈ turnsM a [] from hq)
theorem TurnE.len {a b : List Nat} (h : TurnE a b) : b.length = a.length := by
  obtain ⟨A, M, B, x, rfl, rfl⟩ := h
  simp
theorem TurnE.mem {a b : List Nat} (h : TurnE a b) {c : Nat} : c ∈ b ↔ c ∈ a := by
  obtain ⟨A, M, B, x, rfl, rfl⟩ := h
  simp
theorem TurnE.ne {a b : List Nat} (h : TurnE a b) : b ≠ [] := by
  obtain ⟨A, M, B, x, rfl, rfl⟩ := h
  simp
end
end Lt
namespace Lt
open PySem PySem.Spec PyProof.Rows L2 Evl
open SX (S)
section
variable [ZI]
theorem shp_fap {a b : List (List Nat)} {n : Nat} (ha : ∀ k ∈ a, okT k) (hb : ∀ k ∈ b, okT k) : Shp (n + 2) (fapD a b) := by
  unfold fapD
  cases q : fapM a b with
  | none => exact .non
  | some t =>
    refine .tup (by simp) fun d hd => ?_
    rcases List.mem_cons.mp hd with rfl | hd
    · exact .str ((fapM_mem q).elim (ha t) (hb t))
    · rcases List.mem_cons.mp hd with rfl | hd
      · exact .int
      · rw [List.mem_singleton.mp hd]
        exact .int
theorem adj_okT {row : List Nat} (ht : okT row) : ∀ k ∈ adjM row, okT k := fun k hk c hc => ht c (adj_in hk hc)
end
end Lt
namespace Lt
open PySem PySem.Spec PyProof.Rows L2 Evl
open SX (S)
section
variable [ZI]
def digs (n : Nat) : List Nat := if n < 10 then [48 + n] else [48 + n / 10, 48 + n % 10]
theorem digs_str : ∀ n : Nat, n < 100 → (toString (n : Int) : Str) = S (digs n) := by decide +kernel
def rStrI : List V → Hp → VK → Prop := fun xs H Q => (∃ i, xs = [.int i] ∧ i.natAbs.log2 < 1920 ∧ Q (.str (toString i)) H) ∨ ∃ a, xs = [.str a] ∧ Q (.str a) H
def zStr (x : Dt) (R : DQ) : Prop := match x with
  | .int i => ∃ n : Nat, n < 100 ∧ i = (n : Int) ∧ R false (.str (digs n))
  | .str l => R false (.str l)
  | _ => False
theorem z_str : UnZ (fun x H Q => rStrI [x] H Q) zStr := by
  intro c L H x dx Q R h wx hr k
  unfold zStr at hr
  split at hr
  · obtain ⟨n, hn, rfl, hr⟩ := hr
    rw [wx.scal_int h]
    refine .inl ⟨_, rfl, ?_, ?_⟩
    · have : n.log2 ≤ n := Nat.log2_le_self n
      show (n : Int).natAbs.log2 < 1920
      rw [Int.natAbs_natCast]
      omega
    · rw [digs_str n hn]
      exact k _ _ _ _ hr (h.str _)
  · rw [wx.scal_str h]
    exact .inr ⟨_, rfl, k _ _ _ _ hr (h.str _)⟩
  · exact hr.elim
theorem zStr_s {l : List Nat} {R : DQ} : zStr (.str l) R = R false (.str l) := rfl
/-- tuple(list), told as a tuple that nobody asks for its methods -/
def zTupW (x : Dt) (R : DQ) : Prop := match x with
  | .lst ds => R false (.tup ds)
  | _ => False
theorem zTupW_l {ds : List Dt} {R : DQ} : zTupW (.lst ds) R = R false (.tup ds) := rfl
theorem split_joinL (c : Nat) : ∀ ls : List (List Nat), ls ≠ [] → (∀ p ∈ ls, c ∉ p) → splitM c (TL.joinL [c] ls) = ls
  | [], h, _ => absurd rfl h
  | [p], _, h => splitM_free (h p (List.mem_cons_self ..))
  | p :: q :: r, _, h => by
    show splitM c (p ++ c :: TL.joinL [c] (q :: r)) = _
    rw [splitM_cat _ (h p (List.mem_cons_self ..)), split_joinL c (q :: r) (by simp) fun x hx => h x (List.mem_cons_of_mem _ hx)]
end
end Lt
namespace Lt
open PySem PySem.Spec PyProof.Rows L2 Evl
open SX (S)
variable [ZI]
/-- .. looked at as a whole; dicts are not -/
def okCh : Bool × Dt → Bool
  | (_, .dic _ _) => false
  | _ => true
theorem AtS.frs {A B : Addr → Prop} {H : Hp} {d : Dt} {q : Addr} (h : AtS A H d q) (hd : okCh (true, d) = true) (k : ∀ a, A a → B a) (hq : B q) : FrS B H d (.ref q) := by
  cases d <;> try exact h.elim
  · obtain ⟨xs, h1, h2⟩ := h
    exact ⟨q, xs, rfl, hq, h1, h2.mono fun a o ha ho _ => ⟨k a ha, ho⟩⟩
  · cases hd
theorem ChS.data {A B : Addr → Prop} {H : Hp} (k : ∀ a, A a → B a) : ∀ {ts : List (Bool × Dt)} {xs : List V} {qs : List Addr}, ts.all okCh = true → (∀ q ∈ qs, B q) → ChS A H ts xs qs → FrSs B H (ts.map (·.2)) xs
  | [], _, _, _, _, ⟨e, _⟩ => e
  | (b, d) :: ts, _, _, ho, hq, ⟨x, xs', e, .inl ⟨_, h1, h⟩⟩ => by
    rw [List.all_cons, Bool.and_eq_true] at ho
    exact ⟨x, xs', e, h1.mono (fun a o ha ho _ => ⟨k a ha, ho⟩), ChS.data k ho.2 hq h⟩
  | (b, d) :: ts, _, _, ho, hq, ⟨x, xs', e, .inr ⟨eb, r, qs', e2, e3, h1, h2⟩⟩ => by
    rw [List.all_cons, Bool.and_eq_true] at ho
    subst e2 eb
    exact ⟨_, xs', e, h1.frs ho.1 k (hq r (by rw [e3]; exact List.mem_cons_self ..)), ChS.data k ho.2 (fun q hm => hq q (by rw [e3]; exact List.mem_cons_of_mem _ hm)) h2⟩
abbrev PTD := PSt → (List (Bool × Dt) → PSt → Prop) → Prop
section
variable {c : Ctx} {t ta : TE} {tr : TA} {pa : PTE} {pr : PTD} {K : PySem.W.Frag}
/-- a slot's own piece taken out -/
theorem Rel.take {s : PSt} {σ : L2.St} {F : List Pc} {H : Hp} {k : Nat} {a : Sl} {v : V} (h : Rel c s σ F H) (hs : s[k]? = some a) (hσ : σ[k]? = some (some v)) : Rel c (s.set k .un) σ ((a, some v) :: F) H := by
  obtain ⟨b, hb, hz⟩ := zip_get h.1 hs
  rw [hσ] at hb
  cases hb
  have ho := h.out hz
  have h2 : RelL c ((.un, some v) :: ((s.zip σ).take k ++ (s.zip σ).drop (k + 1) ++ ((a, some v) :: F))) H := by
    have h3 : RelL c ((s.zip σ).take k ++ (s.zip σ).drop (k + 1) ++ ((a, some v) :: F)) H := ho.perm List.perm_middle.symm
    exact ⟨h3.nd, fun x hx => by
      rcases List.mem_cons.mp hx with rfl | hx
      · trivial
      · exact h3.ok x hx, h3.old, h3.iv⟩
  exact .back h.1 hσ h2
theorem FrSs.append {A : Addr → Prop} {H : Hp} : ∀ {ds es : List Dt} {vs ws : List V}, FrSs A H ds vs → FrSs A H es ws → FrSs A H (ds ++ es) (vs ++ ws)
  | [], _, _, _, r, k => by cases r; exact k
  | d :: ds, _, _, _, ⟨v, us, e, h1, h2⟩, k => by subst e; exact ⟨v, _, rfl, h1, h2.append k⟩
theorem ChS.set {A A' : Addr → Prop} {H H' : Hp} {d d' : Dt} {q : Addr} (k : ∀ a o, A a → H a = some o → stayO o = true → A' a ∧ H' a = some o) : ∀ {ts : List (Bool × Dt)} {xs : List V} {qs : List Addr} {j : Nat}, ChS A H ts xs qs → ts[j]? = some (true, d) → qs.Nodup → qs[rkB ts j]? = some q → (∀ r ∈ qs, r ≠ q → ∀ o, H r = some o → H' r = some o) → AtS A' H' d' q → ChS A' H' (ts.set j (true, d')) xs qs
  | [], _, _, j, _, e, _, _, _, _ => by simp at e
  | (b, d0) :: ts, _, _, 0, ⟨x, xs', ex, h⟩, e, nd, hq, kq, ha => by
    simp at e
    obtain ⟨rfl, rfl⟩ := e
    rcases h with ⟨z, _⟩ | ⟨_, r, qs', e2, e3, h1, h2⟩
    · cases z
    · subst ex e2 e3
      have : r = q := by simpa [rkB] using hq
      subst this
      refine ⟨_, _, rfl, .inr ⟨rfl, r, qs', rfl, rfl, ha, h2.mono k fun s hs => kq s (List.mem_cons_of_mem _ hs) fun z => ?_⟩⟩
      subst z
      exact (List.nodup_cons.mp nd).1 hs
  | (b, d0) :: ts, _, _, j + 1, ⟨x, xs', ex, h⟩, e, nd, hq, kq, ha => by
    have e : ts[j]? = some (true, d) := by simpa using e
    rcases h with ⟨rfl, h1, h2⟩ | ⟨rfl, r, qs', e2, e3, h1, h2⟩
    · subst ex
      exact ⟨_, _, rfl, .inl ⟨rfl, h1.mono k, ChS.set k h2 e nd (by unfold rkB at hq ⊢; simpa using hq) kq ha⟩⟩
    · subst ex e2 e3
      have er : rkB ((true, d0) :: ts) (j + 1) = rkB ts j + 1 := by unfold rkB; rw [List.take_succ_cons, List.countP_cons]; simp
      rw [er] at hq
      have hq : qs'[rkB ts j]? = some q := by simpa using hq
      have ne : r ≠ q := fun z => (List.nodup_cons.mp nd).1 (z ▸ List.mem_of_getElem? hq)
      exact ⟨_, _, rfl, .inr ⟨rfl, r, qs', rfl, rfl, h1.mono k (kq r (List.mem_cons_self ..) ne), ChS.set k h2 e (List.nodup_cons.mp nd).2 hq (fun s hs => kq s (List.mem_cons_of_mem _ hs)) ha⟩⟩
theorem Rel.clus {s : PSt} {σ : L2.St} {F : List Pc} {H : Hp} {k : Nat} {C : Cl} (h : Rel c s σ F H) (hs : s[k]? = some (.cl C)) : σ[k]? = some (some C.v) ∧ C.φ (Al c (s.zip σ ++ F)) H ∧ C.as.Nodup := by
  obtain ⟨b, hb, hm⟩ := mem_zip h.1 hs
  have hm' : (Sl.cl C, b) ∈ s.zip σ ++ F := List.mem_append_left _ hm
  have := h.2.ok _ hm'
  cases b with
  | none => exact this.elim
  | some v =>
    obtain ⟨e, _, hφ⟩ := this
    subst e
    refine ⟨hb, hφ, ?_⟩
    obtain ⟨_, hb2, hz⟩ := zip_get h.1 hs
    rw [hb] at hb2
    cases hb2
    have ho := (h.out hz).nd
    rw [show owns ((Sl.cl C, some C.v) :: ((s.zip σ).take k ++ (s.zip σ).drop (k + 1) ++ F)) = C.as ++ owns ((s.zip σ).take k ++ (s.zip σ).drop (k + 1) ++ F) from rfl] at ho
    exact (List.nodup_append.mp ho).1
end
end Lt
namespace Lt
open PySem PySem.Spec PyProof.Rows L2 Evl
open SX (S)
def priceM (ps : List Nat) (c : Nat) : Nat := ps.getD (c - 97) 0
def costM (ps : List Nat) : List Nat → List (Nat × Nat) → Nat
  | _, [] => 0
  | row, q :: ts => priceM ps (row.getD q.1 0) + costM ps (turnM row q.1 q.2) ts
end Lt
namespace Lt
open PySem PySem.Spec PyProof.Rows L2 Evl
open SX (S)
variable [ZI]
section
variable {c : Ctx} {t : TE} {tp : PTE} {K : PySem.W.Frag}
theorem ChS.at {A : Addr → Prop} {H : Hp} {b : Bool} {d : Dt} : ∀ {ts : List (Bool × Dt)} {xs : List V} {qs : List Addr} {j : Nat}, ChS A H ts xs qs → ts[j]? = some (b, d) → ∃ x, xs[j]? = some x ∧ ((b = false ∧ FrS A H d x) ∨ (b = true ∧ ∃ q, x = .ref q ∧ q ∈ qs ∧ AtS A H d q))
  | [], _, _, j, _, e => by simp at e
  | (b0, d0) :: ts, _, _, 0, ⟨x, xs', ex, h⟩, e => by
    simp at e
    obtain ⟨rfl, rfl⟩ := e
    subst ex
    refine ⟨x, rfl, h.imp (fun z => ⟨z.1, z.2.1⟩) fun ⟨z, q, qs', e2, e3, h1, _⟩ => ⟨z, q, e2, by rw [e3]; exact List.mem_cons_self .., h1⟩⟩
  | (b0, d0) :: ts, _, _, j + 1, ⟨x, xs', ex, h⟩, e => by
    have e : ts[j]? = some (b, d) := by simpa using e
    subst ex
    rcases h with ⟨_, _, h2⟩ | ⟨_, q, qs', _, e3, _, h2⟩
    · obtain ⟨y, g1, g2⟩ := ChS.at h2 e
      exact ⟨y, by simpa using g1, g2⟩
    · obtain ⟨y, g1, g2⟩ := ChS.at h2 e
      exact ⟨y, by simpa using g1, g2.imp id fun ⟨z, r, e4, e5, g3⟩ => ⟨z, r, e4, by rw [e3]; exact List.mem_cons_of_mem _ e5, g3⟩⟩
theorem ChS.append {A : Addr → Prop} {H : Hp} : ∀ {ts us : List (Bool × Dt)} {xs ys : List V} {qs rs : List Addr}, ChS A H ts xs qs → ChS A H us ys rs → ChS A H (ts ++ us) (xs ++ ys) (qs ++ rs)
  | [], _, _, _, _, _, ⟨e1, e2⟩, k => by rw [e1, e2]; exact k
  | (b, d) :: ts, _, _, _, _, _, ⟨x, xs', e, h⟩, k => by
    subst e
    refine ⟨x, _, rfl, h.imp (fun ⟨e1, h1, h2⟩ => ⟨e1, h1, h2.append k⟩) fun ⟨e1, q, qs', e2, e3, h1, h2⟩ => ?_⟩
    subst e3
    exact ⟨e1, q, _, e2, rfl, h1, h2.append k⟩
end
end Lt
namespace Lt
open PySem PySem.Spec PyProof.Rows L2 Evl
open SX (S)
variable [ZI]
/-- what waits: (price, address, what waits at it) -/
abbrev WL := List (Nat × Addr × List Dt)
section
variable {c : Ctx} {te : TE} {pe pa pi : PTE} {ta ti : TE} {K : PySem.W.Frag}
theorem nd_inj {α β : Type} {f : α → β} : ∀ {l : List α}, (l.map f).Nodup → ∀ {a b : α}, a ∈ l → b ∈ l → f a = f b → a = b
  | [], _, _, _, h, _, _ => nomatch h
  | x :: l, h, a, b, ha, hb, e => by
    rw [List.map_cons] at h
    obtain ⟨h1, h2⟩ := List.nodup_cons.mp h
    rcases List.mem_cons.mp ha with ea | ha2 <;> rcases List.mem_cons.mp hb with eb | hb2
    · rw [ea, eb]
    · refine absurd ?_ h1
      rw [← ea, e]
      exact List.mem_map_of_mem hb2
    · refine absurd ?_ h1
      rw [← eb, ← e]
      exact List.mem_map_of_mem ha2
    · exact nd_inj h2 ha2 hb2 e
/-- a place for what waits at n; one more there -/
def wAdd (ts : WL) (n : Nat) (q : Addr) : WL := if n ∈ ts.map (·.1) then ts else ts ++ [(n, q, [])]
def wApp (ts : WL) (n : Nat) (d : Dt) : WL := ts.map fun t => if t.1 = n then (t.1, t.2.1, t.2.2 ++ [d]) else t
theorem wApp_keys (ts : WL) (n : Nat) (d : Dt) : (wApp ts n d).map (·.1) = ts.map (·.1) := by
  unfold wApp
  rw [List.map_map]
  refine List.map_congr_left fun t _ => ?_
  show (if t.1 = n then (t.1, t.2.1, t.2.2 ++ [d]) else t).1 = t.1
  split <;> rfl
end
end Lt
namespace Lt
open PySem PySem.Spec PyProof.Rows L2 Evl
open SX (S)
variable [ZI]
def Wt (ts : WL) (n : Nat) (x : Dt) : Prop := ∃ t ∈ ts, t.1 = n ∧ x ∈ t.2.2
structure WOk (ts : WL) : Prop where
  nk : (ts.map (·.1)).Nodup
  ne : ∀ t ∈ ts, t.2.2 ≠ []
theorem Wt_add {ts : WL} {n m : Nat} {q : Addr} {d x : Dt} : Wt (wApp (wAdd ts n q) n d) m x ↔ Wt ts m x ∨ (m = n ∧ x = d) := by
  have h1 : ∀ us : WL, Wt (wApp us n d) m x ↔ Wt us m x ∨ (m = n ∧ x = d ∧ n ∈ us.map (·.1)) := fun us => by
    constructor
    · rintro ⟨t, ht, e, hx⟩
      obtain ⟨u, hu, rfl⟩ := List.mem_map.mp ht
      by_cases c : u.1 = n
      · rw [if_pos c] at e hx
        have e : u.1 = m := e
        rcases List.mem_append.mp hx with hx | hx
        · exact .inl ⟨u, hu, e, hx⟩
        · exact .inr ⟨e.symm.trans c, List.mem_singleton.mp hx, List.mem_map.mpr ⟨u, hu, c⟩⟩
      · rw [if_neg c] at e hx
        exact .inl ⟨u, hu, e, hx⟩
    · rintro (⟨u, hu, e, hx⟩ | ⟨rfl, rfl, hm⟩)
      · refine ⟨_, List.mem_map.mpr ⟨u, hu, rfl⟩, ?_, ?_⟩
        · split <;> exact e
        · split
          · exact List.mem_append_left _ hx
          · exact hx
      · obtain ⟨u, hu, e⟩ := List.mem_map.mp hm
        refine ⟨_, List.mem_map.mpr ⟨u, hu, rfl⟩, ?_, ?_⟩
        · rw [if_pos e]; exact e
        · rw [if_pos e]; exact List.mem_append_right _ (List.mem_singleton.mpr rfl)
  rw [h1]
  unfold wAdd
  split
  · rename_i hn
    exact or_congr_right (and_congr_right fun _ => ⟨fun h => h.1, fun h => ⟨h, hn⟩⟩)
  · rename_i hn
    refine or_congr ⟨?_, ?_⟩ (and_congr_right fun _ => ⟨fun h => h.1, fun h => ⟨h, ?_⟩⟩)
    · rintro ⟨t, ht, e, hx⟩
      rcases List.mem_append.mp ht with ht | ht
      · exact ⟨t, ht, e, hx⟩
      · obtain rfl := List.mem_singleton.mp ht
        cases hx
    · rintro ⟨t, ht, e, hx⟩
      exact ⟨t, List.mem_append_left _ ht, e, hx⟩
    · rw [List.map_append]; exact List.mem_append_right _ (List.mem_singleton.mpr rfl)
theorem wAdd_nk {ts : WL} {n : Nat} {q : Addr} (h : (ts.map (·.1)).Nodup) : ((wAdd ts n q).map (·.1)).Nodup := by
  unfold wAdd
  split
  · exact h
  · rename_i hn
    rw [List.map_append]
    refine List.nodup_append.mpr ⟨h, by simp, fun a ha b hb e => ?_⟩
    obtain rfl := List.mem_singleton.mp hb
    exact hn (e ▸ ha)
theorem WOk.add {ts : WL} (h : WOk ts) (n : Nat) (q : Addr) (d : Dt) : WOk (wApp (wAdd ts n q) n d) := ⟨by rw [wApp_keys]; exact wAdd_nk h.nk, fun t ht => by
  obtain ⟨u, hu, rfl⟩ := List.mem_map.mp ht
  by_cases c : u.1 = n
  · rw [if_pos c]
    show u.2.2 ++ [d] ≠ []
    simp
  · rw [if_neg c]
    unfold wAdd at hu
    split at hu
    · exact h.ne u hu
    · rcases List.mem_append.mp hu with hu | hu
      · exact h.ne u hu
      · obtain rfl := List.mem_singleton.mp hu
        exact absurd rfl c⟩
section
variable {ts : WL} {n : Nat} {t : Nat × Addr × List Dt}
theorem WOk.pop (h : WOk ts) : WOk (ts.filter fun u => decide (u.1 ≠ n)) := ⟨(List.filter_sublist.map _).nodup h.nk, fun t ht => h.ne t (List.mem_filter.mp ht).1⟩
theorem Wt_pop {m : Nat} {x : Dt} : Wt (ts.filter fun u => decide (u.1 ≠ n)) m x ↔ Wt ts m x ∧ m ≠ n := by
  constructor
  · rintro ⟨t, ht, e, hx⟩
    obtain ⟨h1, h2⟩ := List.mem_filter.mp ht
    have h2 : t.1 ≠ n := by simpa using h2
    exact ⟨⟨t, h1, e, hx⟩, e ▸ h2⟩
  · rintro ⟨⟨t, ht, e, hx⟩, hn⟩
    exact ⟨t, List.mem_filter.mpr ⟨ht, by simpa [e] using hn⟩, e, hx⟩
end
def stM (u : List Nat) (q : Nat × Nat) : List Nat := turnM u q.1 q.2
def wM (ps u : List Nat) (q : Nat × Nat) : Nat := priceM ps (u.getD q.1 0)
inductive PthM (ps u0 : List Nat) : Nat → List Nat → Prop
  | nil : PthM ps u0 0 u0
  | snoc {c : Nat} {u : List Nat} {q : Nat × Nat} : PthM ps u0 c u → q ∈ turnsM u [] → PthM ps u0 (c + wM ps u q) (stM u q)
def Dist (ps u0 : List Nat) (d : Nat) (u : List Nat) : Prop := PthM ps u0 d u ∧ ∀ c, PthM ps u0 c u → d ≤ c
abbrev Bk := Option (List Nat × (Nat × Nat))
abbrev FoE := List Nat × Nat × Bk
abbrev IT := List Nat × Bk
def bA : Bk → Dt
  | none => .non
  | some x => .str x.1
def bQ : Bk → Dt
  | none => .non
  | some x => dPr x.2
def dIt (x : IT) : Dt := .tup [.str x.1, bA x.2, bQ x.2]
def ItOk (ps u0 : List Nat) (fo : List FoE) (n : Nat) (it : IT) : Prop := (it.2 = none ∧ it.1 = u0 ∧ n = 0) ∨ ∃ a q da ba, it.2 = some (a, q) ∧ (a, da, ba) ∈ fo ∧ q ∈ turnsM a [] ∧ it.1 = stM a q ∧ n = da + wM ps a q
theorem ItOk.more {ps u0 : List Nat} {fo fo' : List FoE} {n : Nat} {it : IT} (h : ItOk ps u0 fo n it) (k : ∀ e ∈ fo, e ∈ fo') : ItOk ps u0 fo' n it := h.imp id fun ⟨a, q, da, ba, h1, h2, h3⟩ => ⟨a, q, da, ba, h1, k _ h2, h3⟩
def Wv (p : Nat) (rest : List IT) (ts : WL) (n : Nat) (v : List Nat) : Prop := (n = p ∧ ∃ b, (v, b) ∈ rest) ∨ ∃ b, Wt ts n (dIt (v, b))
structure DjI (ps u0 : List Nat) (fo : List FoE) (rest : List IT) (p : Nat) (ts : WL) (pend : List Nat → Nat × Nat → Prop) : Prop where
  wk : WOk ts
  nd : (fo.map (·.1)).Nodup
  so : ∀ e ∈ fo, Dist ps u0 e.2.1 e.1
  bk : ∀ e ∈ fo, ItOk ps u0 fo e.2.1 (e.1, e.2.2)
  wt : ∀ n x, Wt ts n x → ∃ it, x = dIt it ∧ ItOk ps u0 fo n it
  re : ∀ it ∈ rest, ItOk ps u0 fo p it
  st : u0 ∈ fo.map (·.1) ∨ Wv p rest ts 0 u0
  nx : ∀ e ∈ fo, ∀ q ∈ turnsM e.1 [], pend e.1 q ∨ (∃ e' ∈ fo, e'.1 = stM e.1 q ∧ e'.2.1 ≤ e.2.1 + wM ps e.1 q) ∨ Wv p rest ts (e.2.1 + wM ps e.1 q) (stM e.1 q)
  lo : ∀ e ∈ fo, e.2.1 ≤ p
  hi : ∀ n x, Wt ts n x → p ≤ n
section
variable {ps u0 : List Nat} {fo : List FoE} {rest : List IT} {p : Nat} {ts : WL} {pend : List Nat → Nat × Nat → Prop}
theorem DjI.reach (h : DjI ps u0 fo rest p ts fun _ _ => False) {c : Nat} {u : List Nat} (hp : PthM ps u0 c u) : (∃ e ∈ fo, e.1 = u ∧ e.2.1 ≤ c) ∨ ∃ n, n ≤ c ∧ ∃ v, Wv p rest ts n v := by
  induction hp with
  | nil =>
    rcases h.st with z | z
    · obtain ⟨e, he, e1⟩ := List.mem_map.mp z
      exact .inl ⟨e, he, e1, (h.so e he).2 0 (e1 ▸ .nil)⟩
    · exact .inr ⟨0, Nat.le_refl _, _, z⟩
  | snoc hp hq ih =>
    rcases ih with ⟨e, he, e1, e2⟩ | ⟨n, hn, v, hv⟩
    · subst e1
      rcases h.nx e he _ hq with z | ⟨e', he', f1, f2⟩ | z
      · exact z.elim
      · exact .inl ⟨e', he', f1, by omega⟩
      · exact .inr ⟨_, by omega, _, z⟩
    · exact .inr ⟨n, by omega, v, hv⟩
theorem DjI.start {q : Addr} : DjI ps u0 [] [] 0 [(0, q, [dIt (u0, none)])] fun _ _ => False where
  wk := ⟨by simp, fun t ht => by obtain rfl := List.mem_singleton.mp ht; simp⟩
  nd := by simp
  so := fun e he => by cases he
  bk := fun e he => by cases he
  wt := fun n x ⟨t, ht, e, hx⟩ => by
    obtain rfl := List.mem_singleton.mp ht
    obtain rfl := List.mem_singleton.mp hx
    exact ⟨_, rfl, .inl ⟨rfl, rfl, e.symm⟩⟩
  re := fun it hi => by cases hi
  st := .inr (.inr ⟨none, _, List.mem_singleton.mpr rfl, rfl, List.mem_singleton.mpr rfl⟩)
  nx := fun e he => by cases he
  lo := fun e he => by cases he
  hi := fun n x _ => Nat.zero_le _
theorem its_of {P : IT → Prop} : ∀ {xs : List Dt}, (∀ x ∈ xs, ∃ it, x = dIt it ∧ P it) → ∃ its : List IT, xs = its.map dIt ∧ ∀ it ∈ its, P it
  | [], _ => ⟨[], rfl, fun _ h => by cases h⟩
  | x :: xs, h => by
    obtain ⟨it, e, hp⟩ := h x (List.mem_cons_self ..)
    obtain ⟨its, e2, h2⟩ := its_of fun y hy => h y (List.mem_cons_of_mem _ hy)
    exact ⟨it :: its, by rw [e, e2]; rfl, fun z hz => (List.mem_cons.mp hz).elim (fun e => e ▸ hp) (h2 z)⟩
theorem DjI.take {t : Nat × Addr × List Dt} (h : DjI ps u0 fo [] p ts fun _ _ => False) (ht : t ∈ ts) (hl : ∀ u ∈ ts, t.1 ≤ u.1) : ∃ its : List IT, t.2.2 = its.map dIt ∧ DjI ps u0 fo its t.1 (ts.filter fun u => decide (u.1 ≠ t.1)) fun _ _ => False := by
  obtain ⟨its, e, hi⟩ := its_of (P := ItOk ps u0 fo t.1) fun x hx => h.wt t.1 x ⟨t, ht, rfl, hx⟩
  have hpt : p ≤ t.1 := by
    obtain ⟨x, hx⟩ := List.exists_mem_of_ne_nil _ (h.wk.ne t ht)
    exact h.hi _ x ⟨t, ht, rfl, hx⟩
  have mv : ∀ {n v}, Wv p [] ts n v → Wv t.1 its (ts.filter fun u => decide (u.1 ≠ t.1)) n v := fun {n v} hw => by
    rcases hw with ⟨_, b, hb⟩ | ⟨b, u, hu, e1, hx⟩
    · cases hb
    · by_cases c : n = t.1
      · have : u = t := nd_inj (f := fun t : Nat × Addr × List Dt => t.1) h.wk.nk hu ht (e1.trans c)
        subst this
        rw [e] at hx
        obtain ⟨it, hit, ed⟩ := List.mem_map.mp hx
        refine .inl ⟨c, it.2, ?_⟩
        have : it.1 = v := by
          unfold dIt at ed
          injection ed with ed
          injection ed with ed _
          injection ed
        rw [← this]; exact hit
      · exact .inr ⟨b, Wt_pop.mpr ⟨⟨u, hu, e1, hx⟩, c⟩⟩
  refine ⟨its, e, h.wk.pop, h.nd, h.so, h.bk, fun n x hx => h.wt n x (Wt_pop.mp hx).1, hi, h.st.imp id mv, fun e he q hq => (h.nx e he q hq).imp id (Or.imp id mv), fun e he => Nat.le_trans (h.lo e he) hpt, fun n x hx => ?_⟩
  obtain ⟨⟨u, hu, e1, _⟩, _⟩ := Wt_pop.mp hx
  rw [← e1]; exact hl u hu
theorem DjI.add {it : IT} (h : DjI ps u0 fo (it :: rest) p ts fun _ _ => False) (hf : it.1 ∉ fo.map (·.1)) : DjI ps u0 (fo ++ [(it.1, p, it.2)]) rest p ts fun a _ => a = it.1 := by
  have hk : ∀ e ∈ fo, e ∈ fo ++ [(it.1, p, it.2)] := fun e he => List.mem_append_left _ he
  have hm : (it.1, p, it.2) ∈ fo ++ [(it.1, p, it.2)] := List.mem_append_right _ (List.mem_singleton.mpr rfl)
  have hi := h.re it (List.mem_cons_self ..)
  have mv : ∀ {n v}, Wv p (it :: rest) ts n v → (v = it.1 ∧ n = p) ∨ Wv p rest ts n v := fun {n v} hw => by
    rcases hw with ⟨e, b, hb⟩ | hb
    · rcases List.mem_cons.mp hb with hb | hb
      · exact .inl ⟨by rw [← hb], e⟩
      · exact .inr (.inl ⟨e, b, hb⟩)
    · exact .inr (.inr hb)
  have hpath : PthM ps u0 p it.1 := by
    rcases hi with ⟨_, e, rfl⟩ | ⟨a, q, da, ba, _, h2, h3, e, rfl⟩
    · rw [e]; exact .nil
    · rw [e]; exact .snoc (h.so _ h2).1 h3
  have hd : Dist ps u0 p it.1 := ⟨hpath, fun c hc => by
    rcases h.reach hc with ⟨e, he, e1, _⟩ | ⟨n, hn, v, hv⟩
    · exact absurd (List.mem_map.mpr ⟨e, he, e1⟩) hf
    · rcases hv with ⟨e, _⟩ | ⟨b, hb⟩
      · omega
      · have := h.hi _ _ hb; omega⟩
  refine ⟨h.wk, ?_, fun e he => ?_, fun e he => ?_, fun n x hx => ?_, fun i hi => (h.re i (List.mem_cons_of_mem _ hi)).more hk, ?_, fun e he q hq => ?_, fun e he => ?_, h.hi⟩
  · rw [List.map_append]
    refine List.nodup_append.mpr ⟨h.nd, by simp, fun a ha b hb e => hf ?_⟩
    have hb : b = it.1 := List.mem_singleton.mp hb
    rw [← hb, ← e]
    exact ha
  · rcases List.mem_append.mp he with he | he
    · exact h.so e he
    · obtain rfl := List.mem_singleton.mp he
      exact hd
  · rcases List.mem_append.mp he with he | he
    · exact (h.bk e he).more hk
    · obtain rfl := List.mem_singleton.mp he
      exact hi.more hk
  · obtain ⟨i, e, hi⟩ := h.wt n x hx
    exact ⟨i, e, hi.more hk⟩
  · rw [List.map_append]
    rcases h.st with z | z
    · exact .inl (List.mem_append_left _ z)
    · rcases mv z with ⟨z, _⟩ | z
      · exact .inl (List.mem_append_right _ (List.mem_singleton.mpr z))
      · exact .inr z
  · rcases List.mem_append.mp he with he | he
    · rcases h.nx e he q hq with z | ⟨e', he', z⟩ | z
      · exact z.elim
      · exact .inr (.inl ⟨e', hk _ he', z⟩)
      · rcases mv z with ⟨z1, z2⟩ | z
        · exact .inr (.inl ⟨_, hm, z1.symm, Nat.le_of_eq z2.symm⟩)
        · exact .inr (.inr z)
    · obtain rfl := List.mem_singleton.mp he
      exact .inl rfl
  · rcases List.mem_append.mp he with he | he
    · exact h.lo e he
    · obtain rfl := List.mem_singleton.mp he
      exact Nat.le_refl _
theorem DjI.push {here : List Nat} {b : Bk} {i : Nat} {q : Nat × Nat} (h : DjI ps u0 fo rest p ts fun a r => a = here ∧ r ∈ (turnsM here []).drop i) (he : (here, p, b) ∈ fo) (hq : (turnsM here [])[i]? = some q) (ad : Addr) :
    DjI ps u0 fo rest p (wApp (wAdd ts (p + wM ps here q) ad) (p + wM ps here q) (dIt (stM here q, some (here, q)))) fun a r => a = here ∧ r ∈ (turnsM here []).drop (i + 1) := by
  have mv : ∀ {n v}, Wv p rest ts n v → Wv p rest (wApp (wAdd ts (p + wM ps here q) ad) (p + wM ps here q) (dIt (stM here q, some (here, q)))) n v := fun {n v} hw => hw.imp id fun ⟨b, hb⟩ => ⟨b, Wt_add.mpr (.inl hb)⟩
  refine ⟨h.wk.add _ _ _, h.nd, h.so, h.bk, fun n x hx => ?_, h.re, h.st.imp id mv, fun e hee r hr => ?_, h.lo, fun n x hx => ?_⟩
  · rcases Wt_add.mp hx with hx | ⟨rfl, rfl⟩
    · exact h.wt n x hx
    · exact ⟨_, rfl, .inr ⟨here, q, p, b, rfl, he, List.mem_of_getElem? hq, rfl, rfl⟩⟩
  · rcases h.nx e hee r hr with ⟨z1, z2⟩ | z | z
    · obtain ⟨hi, ei⟩ := List.getElem?_eq_some_iff.mp hq
      rw [List.drop_eq_getElem_cons hi, ei] at z2
      rcases List.mem_cons.mp z2 with rfl | z2
      · have : e = (here, p, b) := nd_inj (f := fun e : FoE => e.1) h.nd hee he z1
        subst this
        exact .inr (.inr (.inr ⟨_, Wt_add.mpr (.inr ⟨rfl, rfl⟩)⟩))
      · exact .inl ⟨z1, z2⟩
    · exact .inr (.inl z)
    · exact .inr (.inr (mv z))
  · rcases Wt_add.mp hx with hx | ⟨rfl, _⟩
    · exact h.hi n x hx
    · omega
theorem DjI.less {P Q : List Nat → Nat × Nat → Prop} (h : DjI ps u0 fo rest p ts P) (k : ∀ a q, q ∈ turnsM a [] → P a q → Q a q) : DjI ps u0 fo rest p ts Q := ⟨h.wk, h.nd, h.so, h.bk, h.wt, h.re, h.st, fun e he q hq => (h.nx e he q hq).imp (k _ _ hq) id, h.lo, h.hi⟩
end
section
variable {ps u0 u v : List Nat} {c d : Nat}
theorem PthM.trans (h : PthM ps u0 c u) (k : PthM ps u d v) : PthM ps u0 (c + d) v := by
  induction k with
  | nil => exact h
  | snoc _ hq ih => rw [← Nat.add_assoc]; exact .snoc ih hq
theorem turns_why {held : List Nat} {q : Nat × Nat} (h : whyM u held q.1 q.2 = []) : q ∈ turnsM u held := by
  obtain ⟨h1, h2, h3, h4⟩ := whyM_iff.mp h
  exact turnsM_of h1 h2 h4 h3.symm
theorem PthM.goes {ts : List (Nat × Nat)} : ∀ {ts : List (Nat × Nat)} {u : List Nat}, goesM [] u ts → PthM ps u (costM ps u ts) (runM u ts)
  | [], u, _ => .nil
  | q :: ts, u, g => by
    have h1 : PthM ps u (0 + wM ps u q) (stM u q) := .snoc .nil (turns_why g.1)
    have := h1.trans (PthM.goes (ts := ts) g.2)
    rw [Nat.zero_add] at this
    exact this
theorem PthM.stir (h : PthM ps u0 c u) : Stir [] u0 u := by
  induction h with
  | nil => exact .refl
  | snoc _ hq ih => exact .step ih hq
theorem turn_two {q : Nat × Nat} (hq : q ∈ turnsM u []) : q ∈ turnsM (stM u q) [] ∧ stM (stM u q) q = u ∧ wM ps (stM u q) q = wM ps u q := by
  obtain ⟨q1, q2, q3, q4⟩ := turnsM_mem hq
  have h1 := turns_why (whyM_twice (whyM_turns hq))
  have h2 : stM (stM u q) q = u := turnM_twice (by omega) q2
  refine ⟨h1, h2, ?_⟩
  have key : (stM u q).getD q.1 0 = u.getD q.1 0 := by
    unfold stM
    rw [turnM_getD (by omega) q2, if_pos (by omega), show q.1 + q.2 - q.1 = q.2 by omega, q4]
  unfold wM
  rw [key]
theorem PthM.back (h : PthM ps u0 c u) : PthM ps u c u0 := by
  induction h with
  | nil => exact .nil
  | snoc _ hq ih =>
    obtain ⟨h1, h2, h3⟩ := turn_two (ps := ps) hq
    have h4 : PthM ps (stM _ _) (0 + wM ps (stM _ _) _) (stM (stM _ _) _) := .snoc .nil h1
    rw [h2, h3, Nat.zero_add] at h4
    rw [Nat.add_comm]
    exact h4.trans ih
theorem Dist.symm (h : Dist ps u0 c u) : Dist ps u c u0 := ⟨h.1.back, fun d hd => h.2 d hd.back⟩
end
section
variable {ps u0 : List Nat} {fo : List FoE} {rest : List IT} {p : Nat} {ts : WL} {pend : List Nat → Nat × Nat → Prop} {B : Nat}
theorem DjI.kin (h : DjI ps u0 fo rest p ts pend) {e : FoE} (he : e ∈ fo) : KinM u0 e.1 := kin_stir.mp (h.so e he).1.stir
theorem DjI.len (h : DjI ps u0 fo rest p ts pend) (hB : KinB u0 B) : fo.length ≤ B := by
  have := hB (fo.map (·.1)) h.nd fun r hr => by
    obtain ⟨e, he, rfl⟩ := List.mem_map.mp hr
    exact h.kin he
  rw [List.length_map] at this
  exact this
end
end Lt
namespace Lt
open PySem PySem.Spec PyProof.Rows L2 Evl
open SX (S)
section
variable [ZI]
theorem RowOk.rev {a : List Nat} (h : RowOk a) : RowOk a.reverse := ⟨by simpa using h.1, by simpa using h.2.1, fun c hc => h.2.2 c (List.mem_reverse.mp hc)⟩
end
end Lt
namespace Lt
open PySem PySem.Spec PyProof.Rows L2 Evl
open SX (S)
variable [ZI]
def zListV (x : Dt) (R : DQ) : Prop := ∃ al : AL, x = dicD al ∧ R true (.lst (al.map (·.2)))
theorem zListV_d {al : AL} {R : DQ} : zListV (dicD al) R = R true (.lst (al.map (·.2))) := propext ⟨fun ⟨a2, e, h⟩ => by rw [dicD_inj e]; exact h, fun h => ⟨al, rfl, h⟩⟩
end Lt
namespace Lt
open PySem PySem.Spec PyProof.Rows L2 Evl
open SX (S)
variable [ZI]
def budM : Nat → Nat
  | 0 => 0
  | n + 1 => budM n + 99 * n + 1
theorem bud_512 : budM 512 = 12951296 := by decide +kernel
def labV : Dt → Nat
  | .int i => i.toNat
  | _ => 0
def labS (al : AL) : Nat := (al.map fun p => labV p.2).sum
def Lb (al : AL) (u : List Nat) (c : Nat) : Prop := lkD al u = some (.int (c : Int))
theorem Lb.key {al : AL} {u : List Nat} {c : Nat} (h : Lb al u c) : u ∈ al.map (·.1) := lkD_some.mp (by rw [h]; rfl)
structure DearI (ps row : List Nat) (pend : List Nat → Nat × Nat → Prop) (m : Nat) (al : AL) (ws : List (List Nat)) : Prop where
  nd : (al.map (·.1)).Nodup
  so : ∀ p ∈ al, ∃ c : Nat, p.2 = .int (c : Int) ∧ PthM ps row c p.1 ∧ c ≤ 99 * (al.length - 1)
  st : Lb al row 0
  ww : ∀ u ∈ ws, u ∈ al.map (·.1)
  re : ∀ u c, Lb al u c → u ∈ ws ∨ ∀ q ∈ turnsM u [], pend u q ∨ ∃ e, Lb al (stM u q) e ∧ e ≤ c + wM ps u q
  po : labS al + ws.length + (budM 512 - budM al.length) ≤ m
section
variable {ps row : List Nat} {m : Nat} {al : AL} {ws : List (List Nat)} {pend : List Nat → Nat × Nat → Prop}
theorem DearI.start : DearI ps row (fun _ _ => False) 12951296 [(row, .int 0)] [row] where
  nd := by simp
  so p hp := by
    rw [List.mem_singleton] at hp
    subst hp
    exact ⟨0, rfl, .nil, Nat.zero_le _⟩
  st := by unfold Lb; rw [lkD_cons, if_pos rfl]; rfl
  ww u hu := by simpa using hu
  re u c h := .inl (by simpa using h.key)
  po := by
    show 0 + 1 + (budM 512 - 1) ≤ _
    rw [bud_512]
    decide
theorem DearI.lb (h : DearI ps row pend m al ws) {u : List Nat} (hu : u ∈ al.map (·.1)) : ∃ c, Lb al u c ∧ PthM ps row c u ∧ c ≤ 99 * (al.length - 1) := by
  have := lkD_some.mpr hu
  cases e : lkD al u with
  | none => rw [e] at this; cases this
  | some d =>
    obtain ⟨c, h1, h2⟩ := h.so _ (lkD_mem e)
    have h1 : d = .int (c : Int) := h1
    subst h1
    exact ⟨c, e, h2⟩
theorem DearI.kin (h : DearI ps row pend m al ws) {u : List Nat} (hu : u ∈ al.map (·.1)) : KinM row u := by
  obtain ⟨c, _, h2, _⟩ := h.lb hu
  exact kin_stir.mp h2.stir
theorem DearI.len (h : DearI ps row pend m al ws) (hB : KinB row 512) : al.length ≤ 512 := by
  have := hB (al.map (·.1)) h.nd fun u hu => h.kin hu
  simpa using this
theorem DearI.pop {here : List Nat} (h : DearI ps row (fun _ _ => False) m al (here :: ws)) : ∃ c, Lb al here c ∧ DearI ps row (fun u r => u = here ∧ r ∈ (turnsM here []).drop 0) (m - 1) al ws ∧ 1 ≤ m := by
  obtain ⟨c, h1, _⟩ := h.lb (h.ww here (by simp))
  have hpo := h.po
  rw [List.length_cons] at hpo
  refine ⟨c, h1, ⟨h.nd, h.so, h.st, fun u hu => h.ww u (by simp [hu]), fun u c hu => ?_, by omega⟩, by omega⟩
  rcases h.re u c hu with z | z
  · rcases List.mem_cons.mp z with rfl | z
    · exact .inr fun q hq => .inl ⟨rfl, by simpa using hq⟩
    · exact .inl z
  · exact .inr fun q hq => (z q hq).elim (fun z => z.elim) .inr
variable {here : List Nat} {i c : Nat} {q : Nat × Nat}
theorem DearI.done (h : DearI ps row (fun u r => u = here ∧ r ∈ (turnsM here []).drop i) m al ws) (hi : (turnsM here []).length ≤ i) : DearI ps row (fun _ _ => False) m al ws :=
  ⟨h.nd, h.so, h.st, h.ww, fun u c hu => (h.re u c hu).imp id fun z r hr => (z r hr).imp (fun ⟨_, y⟩ => by rw [List.drop_eq_nil_of_le hi] at y; cases y) id, h.po⟩
end
end Lt
namespace Lt
open PySem PySem.Spec PyProof.Rows L2 Evl
open SX (S)
mutual
/-- v is the key, all of whose tuples lie at places of A -/
def NkF (A : Addr → Prop) (H : Hp) : NestedKey → V → Prop
  | .none, _ => False
  | .num i, v => v = .int i
  | .text x, v => v = .str x
  | .tup ks, v => ∃ a xs, v = .ref a ∧ A a ∧ Rd H a (.tup xs) ∧ NkFs A H ks xs
def NkFs (A : Addr → Prop) (H : Hp) : List NestedKey → List V → Prop
  | [], vs => vs = []
  | k :: ks, vs => ∃ v ws, vs = v :: ws ∧ NkF A H k v ∧ NkFs A H ks ws
end
theorem rd_tup {A A' : Addr → Prop} {H H' : Hp} (h : TupK A H A' H') {a : Addr} {xs : List V} (ha : A a) (r : Rd H a (.tup xs)) : A' a ∧ Rd H' a (.tup xs) := by
  rcases r with r | ⟨o, r⟩
  · obtain ⟨q1, q2⟩ := h a _ ha r rfl
    exact ⟨q1, .inl q2⟩
  · obtain ⟨q1, q2⟩ := h a _ ha r rfl
    exact ⟨q1, .inr ⟨o, q2⟩⟩
mutual
theorem NkF.mono {A A' : Addr → Prop} {H H' : Hp} (h : TupK A H A' H') : ∀ (k : NestedKey) {v : V}, NkF A H k v → NkF A' H' k v
  | .none, _, r => r
  | .num _, _, r => r
  | .text _, _, r => r
  | .tup ks, _, ⟨a, xs, e, ha, hr, hk⟩ => let ⟨q1, q2⟩ := rd_tup h ha hr; ⟨a, xs, e, q1, q2, NkFs.mono h ks hk⟩
theorem NkFs.mono {A A' : Addr → Prop} {H H' : Hp} (h : TupK A H A' H') : ∀ (ks : List NestedKey) {vs : List V}, NkFs A H ks vs → NkFs A' H' ks vs
  | [], _, r => r
  | k :: ks, _, ⟨v, ws, e, h1, h2⟩ => ⟨v, ws, e, NkF.mono h k h1, NkFs.mono h ks h2⟩
end
mutual
theorem NkF.is {P : Program} {w : World} {A : Addr → Prop} {H : Hp} {h : Heap} (ok : HOk P w H h) : ∀ (k : NestedKey) {v : V} {u : Value}, NkF A H k v → RelV v u → NestedIs h k u
  | .none, _, _, r, _ => r.elim
  | .num i, v, u, r, e => by
    cases r
    obtain ⟨t, rfl⟩ := e
    exact .int _ _
  | .text x, v, u, r, e => by
    cases r
    obtain ⟨t, rfl⟩ := e
    exact .text _ _
  | .tup ks, v, u, ⟨a, xs, e1, _, hr, hk⟩, e => by
    subst e1
    obtain rfl : u = Value.ref a := e
    obtain ⟨_, its, r, ob, e2, e3, n, e4⟩ := hr.ok ok
    exact .tup e2 e3 e4 (by simpa using NkFs.is ok ks hk r)
theorem NkFs.is {P : Program} {w : World} {A : Addr → Prop} {H : Hp} {h : Heap} (ok : HOk P w H h) : ∀ (ks : List NestedKey) {vs : List V} {us : List Value}, NkFs A H ks vs → Vals vs us → NestedAll h ks us
  | [], _, _, r, e => by
    cases r
    cases e
    exact .nil
  | k :: ks, _, _, ⟨v, ws, e1, h1, h2⟩, e => by
    subst e1
    cases e with
    | cons r1 r2 => exact .cons (NkF.is ok k h1 r1) (NkFs.is ok ks h2 r2)
end
abbrev MEn := NestedKey × Addr × Value
def MemoO (w : World) (m : Addr) (xs : List MEn) : HO := .ext fun h => ∃ o es ep, h.get? m = some o ∧ o.ExactDict ∧ o.data = .dict es ep ∧ es.toList = xs.map (fun x => (⟨x.1.hash w, .ref x.2.1, x.2.2⟩ : DictEntry)) ∧ (xs.map (·.1)).Nodup ∧ (m == sysModules) = false
section
variable {P : Program} {w : World} {H : Hp} {h : Heap} {m : Addr} {xs : List MEn} {A : Addr → Prop}
theorem memo_at (ok : HOk P w H h) (e : H m = some (MemoO w m xs)) (k : ∀ x ∈ xs, NkF A H x.1 (.ref x.2.1) ∧ x.1.depth ≤ 8) : h.DictOfH (nestedKind P w) m xs ∧ (m == sysModules) = false := by
  have z : ObjOk P w H h m (.ext fun h => ∃ o es ep, h.get? m = some o ∧ o.ExactDict ∧ o.data = .dict es ep ∧ es.toList = xs.map (fun x => (⟨x.1.hash w, .ref x.2.1, x.2.2⟩ : DictEntry)) ∧ (xs.map (·.1)).Nodup ∧ (m == sysModules) = false) := ok m _ e
  obtain ⟨⟨o, es, ep, e1, e2, e3, e4, e5, e6⟩, _, _⟩ := z
  exact ⟨⟨o, es, ep, e1, e2, e3, e4, fun x hx => ⟨NkF.is ok x.1 (k x hx).1 rfl, (k x hx).2⟩, e5⟩, e6⟩
/-- a heap that holds this memo and nothing but dicts -/
theorem memo_heap (hn : (xs.map (·.1)).Nodup) (hm : (m == sysModules) = false) : ∃ h0 : Heap, (∃ o es ep, h0.get? m = some o ∧ o.ExactDict ∧ o.data = .dict es ep ∧ es.toList = xs.map (fun x => (⟨x.1.hash w, .ref x.2.1, x.2.2⟩ : DictEntry)) ∧ (xs.map (·.1)).Nodup ∧ (m == sysModules) = false) ∧
    ∀ b ob, h0.get? b = some ob → ∃ es ep, ob.data = .dict es ep := by
  have g : ∀ b, (Heap.get? ⟨Array.replicate (m + 1) ({ cls := .type "dict", data := .dict ((xs.map (fun x => (⟨x.1.hash w, .ref x.2.1, x.2.2⟩ : DictEntry))).toArray) } : Obj), {}⟩ b) = if b < m + 1 then some { cls := .type "dict", data := .dict ((xs.map (fun x => (⟨x.1.hash w, .ref x.2.1, x.2.2⟩ : DictEntry))).toArray) } else none := fun b => by
    unfold Heap.get?
    rw [Array.getElem?_replicate]
    split <;> rename_i q
    · split at q <;> cases q
    · split <;> rfl
  refine ⟨⟨Array.replicate (m + 1) ({ cls := .type "dict", data := .dict ((xs.map (fun x => (⟨x.1.hash w, .ref x.2.1, x.2.2⟩ : DictEntry))).toArray) } : Obj), {}⟩, ⟨_, _, _, by rw [g, if_pos (Nat.lt_succ_self m)], ⟨rfl, rfl, rfl⟩, rfl, by simp, hn, hm⟩, fun b ob e => ?_⟩
  rw [g] at e
  split at e
  · cases e
    exact ⟨_, _, rfl⟩
  · cases e
end
end Lt
namespace Lt
open PySem PySem.Spec PyProof.Rows L2 Evl
open SX (S)
section
variable [ZI]
/-- in how many ways all pairs E can be gone through from c -/
def CntE (c : Nat) (E : List (List Nat)) (n : Nat) : Prop := ∃ l : List (List Nat), l.Nodup ∧ (∀ t, t ∈ l ↔ (adjM (c :: t)).Perm E) ∧ l.length = n
theorem CntE.perm {c : Nat} {E F : List (List Nat)} {n : Nat} (a : CntE c E n) (p : E.Perm F) : CntE c F n := by
  obtain ⟨l, h1, h2, h3⟩ := a
  exact ⟨l, h1, fun t => (h2 t).trans ⟨fun q => q.trans p, fun q => q.trans p.symm⟩, h3⟩
/-- the key of a sign and pairs -/
noncomputable def keyE (c : Nat) (E : List (List Nat)) : NestedKey := .tup [.text (S [c]), .tup ((setT E).map fun k => .tup [.text (S k), .num (E.count k : Int)])]
def SubE (E F : List (List Nat)) : Prop := ∀ k, E.count k ≤ F.count k
end
structure Cn where
  w : World
  C : Addr
  x : Addr
  dx : Addr
  m : Addr
  E0 : List (List Nat)
def Cn.Nd (p : Cn) (xs : List MEn) : Prop := (xs.map (·.1)).Nodup ∧ (p.m == sysModules) = false
def Cn.O (p : Cn) (xs : List MEn) : HO := MemoO p.w p.m xs
def Cn.Good (p : Cn) (A : Addr → Prop) (H : Hp) (xs : List MEn) : Prop := ∀ x ∈ xs, NkF A H x.1 (.ref x.2.1) ∧ ∃ c E n t, x.1 = keyE c E ∧ c ∈ abcS ∧ SubE E p.E0 ∧ CntE c E n ∧ x.2.2 = .int (n : Int) t
theorem Cn.Good.mono {p : Cn} {A A' : Addr → Prop} {H H' : Hp} {xs : List MEn} (g : p.Good A H xs) (k : TupK A H A' H') : p.Good A' H' xs := fun x hx => ⟨NkF.mono k _ (g x hx).1, (g x hx).2⟩
def ziC (p : Cn) : ZI where
  ch o := ∃ xs, o = p.O xs ∧ p.Nd xs
  ch_fix h z := by
    obtain ⟨xs, rfl, _⟩ := z
    cases h
  ch_ext z := by
    obtain ⟨xs, e, h1, h2⟩ := z
    unfold Cn.O MemoO at e
    injection e with e
    subst e
    exact memo_heap h1 h2
  sp A H q a b := a = b ∨ (q = p.m ∧ ∃ xs xs', a = p.O xs ∧ p.Nd xs ∧ b = p.O xs' ∧ p.Nd xs' ∧ p.Good A H xs')
  sp_rfl _ := .inl rfl
  sp_trans h1 k h2 := by
    rcases h1 with rfl | ⟨e, xs, xs', h1, h2', h3, h4, h5⟩
    · exact h2
    · rcases h2 with rfl | ⟨_, ys, ys', g1, g2, g3, g4, g5⟩
      · exact .inr ⟨e, xs, xs', h1, h2', h3, h4, h5.mono k⟩
      · exact .inr ⟨e, xs, ys', h1, h2', g3, g4, g5⟩
  sp_ch h := by
    rcases h with rfl | ⟨_, xs, xs', h1, h2, h3, h4, _⟩
    · exact .inl rfl
    · exact .inr ⟨⟨xs, h1, h2⟩, ⟨xs', h3, h4⟩⟩
  Z _ := True
  ob i ds A H v := i = 7 ∧ ds = [] ∧ v = .ref p.x ∧ A p.x ∧ A p.m ∧ H p.x = some (.ins p.C p.dx [("known", .ref p.m)]) ∧ ∃ xs, H p.m = some (p.O xs) ∧ p.Nd xs ∧ p.Good A H xs
  ob_ref h := ⟨_, h.2.2.1⟩
  ob_mono {i ds A A' H H' v} k h := by
    obtain ⟨h1, h2, h3, h4, h5, h6, xs, h7, h8, h9⟩ := h
    have tk : TupK A H A' H' := fun a u ha hu ht => by
      obtain ⟨q1, o', q2, q3⟩ := k a u ha hu
      rcases q3 with rfl | ⟨_, ys, ys', e, _⟩
      · exact ⟨q1, q2⟩
      · subst e; cases ht
    obtain ⟨q1, o', q2, q3⟩ := k _ _ h4 h6
    obtain ⟨r1, u', r2, r3⟩ := k _ _ h5 h7
    have e : o' = .ins p.C p.dx [("known", .ref p.m)] := by
      rcases q3 with q3 | ⟨_, ys, ys', e, _⟩
      · exact q3.symm
      · cases e
    subst e
    refine ⟨h1, h2, h3, q1, r1, q2, ?_⟩
    rcases r3 with rfl | ⟨_, ys, ys', e1, e2, e3, e4, e5⟩
    · exact ⟨xs, r2, h8, h9.mono tk⟩
    · subst e3
      exact ⟨ys', r2, e4, e5⟩
  ob_lock {i ds A A' H H' v} k h := by
    obtain ⟨h1, h2, h3, h4, h5, h6, xs, h7, h8, h9⟩ := h
    have kp : ∀ a o, A a → H a = some o → (∀ ws, o ≠ .dK ws) → (∀ ob ws, o ≠ .frz ob (.dK ws)) → A' a ∧ H' a = some o := fun a o ha ho n1 n2 => by
      obtain ⟨q1, q2 | ⟨ws, q2 | ⟨ob, q2⟩, _⟩⟩ := k a o ha ho
      · exact ⟨q1, q2⟩
      · rw [ho] at q2; cases q2; exact absurd rfl (n1 ws)
      · rw [ho] at q2; cases q2; exact absurd rfl (n2 ob ws)
    have tk : TupK A H A' H' := fun a u ha hu ht => kp a u ha hu (fun ws e => by subst e; cases ht) fun ob ws e => by subst e; cases ht
    obtain ⟨q1, q2⟩ := kp _ _ h4 h6 (fun _ e => by cases e) fun _ _ e => by cases e
    obtain ⟨r1, r2⟩ := kp _ _ h5 h7 (fun _ e => by cases e) fun _ _ e => by cases e
    exact ⟨h1, h2, h3, q1, r1, q2, xs, r2, h8, h9.mono tk⟩
end Lt
namespace Lt
open PySem PySem.Spec PyProof.Rows L2 Evl
open SX (S)
/-- a memo and a key -/
def MAt (w : World) (H : Hp) (m a : Addr) (xs : List MEn) (k : NestedKey) : Prop := ∃ A : Addr → Prop, H m = some (MemoO w m xs) ∧ (∀ x ∈ xs, NkF A H x.1 (.ref x.2.1) ∧ x.1.depth ≤ 8) ∧ NkF A H k (.ref a) ∧ k.depth ≤ 8
section
variable {X : Cx} {o i e value : Expr} {pos pos' tpos : Pos} {td ty tv : TE}
theorem MAt.d {P : Program} {w : World} {H : Hp} {h : Heap} {m a : Addr} {xs : List MEn} {k : NestedKey} (g : MAt w H m a xs k) (ok : HOk P w H h) : h.DictOfH (nestedKind P w) m xs ∧ (m == sysModules) = false ∧ (nestedKind P w).is h k a := by
  obtain ⟨A, h1, h2, h3, h4⟩ := g
  obtain ⟨q1, q2⟩ := memo_at ok h1 h2
  exact ⟨q1, q2, NkF.is ok k h3 rfl, h4⟩
end
end Lt
namespace Lt
open PySem PySem.Spec PyProof.Rows L2 Evl
open SX (S)
class HasCn where
  p : Cn
abbrev cn [HasCn] : Cn := HasCn.p
@[reducible] instance ziH [h : HasCn] : ZI := ziC h.p
theorem st_mem {xs : List MEn} {k : NestedKey} {a : Addr} {v : Value} {x : MEn} (h : x ∈ storedH xs k a v) : x ∈ xs ∨ (x.1 = k ∧ x.2.2 = v ∧ (x.2.1 = a ∨ ∃ y ∈ xs, y.1 = k ∧ y.2.1 = x.2.1)) := by
  unfold storedH at h
  split at h
  · obtain ⟨y, hy, rfl⟩ := List.mem_map.mp h
    unfold putAt
    split
    · rename_i e
      exact .inr ⟨e, rfl, .inr ⟨y, hy, e, rfl⟩⟩
    · exact .inl hy
  · rcases List.mem_append.mp h with h | h
    · exact .inl h
    · rw [List.mem_singleton] at h
      subst h
      exact .inr ⟨rfl, rfl, .inl rfl⟩
theorem st_keys {xs : List MEn} {k : NestedKey} {a : Addr} {v : Value} (h : (xs.map (·.1)).Nodup) : ((storedH xs k a v).map (·.1)).Nodup := by
  unfold storedH
  split
  · rename_i hs
    have : (xs.map (putAt k v)).map (·.1) = xs.map (·.1) := by
      rw [List.map_map]
      refine List.map_congr_left fun x _ => ?_
      simp only [Function.comp]
      unfold putAt
      split <;> rfl
    rw [this]; exact h
  · rename_i hs
    rw [List.map_append, List.nodup_append]
    refine ⟨h, by simp, fun x hx y hy e => ?_⟩
    simp at hy
    subst hy
    subst e
    obtain ⟨z, hz, e⟩ := List.mem_map.mp hx
    refine hs ?_
    unfold atKey
    rw [Option.isSome_map, List.find?_isSome]
    exact ⟨z, hz, by simpa using e⟩
section
variable [HasCn] {c : Ctx} {L : List Pc} {H : Hp} {s : PSt} {σ : L2.St} {F : List Pc}
/-- the memo is written -/
theorem Rel.put {xs : List MEn} {a : Addr} {v : Value} {cc : Nat} {E : List (List Nat)} {n : Nat} {t : Tok} (h : Rel c s σ F H) (h1 : H cn.m = some (cn.O xs)) (h2 : cn.Nd xs) (h3 : cn.Good c.B H xs) (hk : NkF c.B H (keyE cc E) (.ref a)) (hc : cc ∈ abcS) (hs : SubE E cn.E0) (hn : CntE cc E n) :
    cn.Nd (storedH xs (keyE cc E) a (.int n t)) ∧ (∀ B, TupK B H B (upd H cn.m (cn.O (storedH xs (keyE cc E) a (.int n t))))) ∧ cn.Good c.B (upd H cn.m (cn.O (storedH xs (keyE cc E) a (.int n t)))) (storedH xs (keyE cc E) a (.int n t)) ∧ Rel c s σ F (upd H cn.m (cn.O (storedH xs (keyE cc E) a (.int n t)))) := by
  have tk : ∀ B, TupK B H B (upd H cn.m (cn.O (storedH xs (keyE cc E) a (.int n t)))) := fun B b u hb hu ht => ⟨hb, by
    have ne : b ≠ cn.m := fun z => by
      subst z
      rw [h1] at hu
      cases hu
      cases ht
    rw [upd_ne ne]; exact hu⟩
  have nd : cn.Nd (storedH xs (keyE cc E) a (.int n t)) := ⟨st_keys h2.1, h2.2⟩
  have gd : cn.Good c.B (upd H cn.m (cn.O (storedH xs (keyE cc E) a (.int n t)))) (storedH xs (keyE cc E) a (.int n t)) := fun x hx => by
    rcases st_mem hx with hx | ⟨e1, e2, e3⟩
    · exact ⟨NkF.mono (tk _) _ (h3 x hx).1, (h3 x hx).2⟩
    · refine ⟨?_, cc, E, n, t, e1, hc, hs, hn, e2⟩
      rw [e1]
      rcases e3 with e3 | ⟨y, hy, e3, e4⟩
      · rw [e3]; exact NkF.mono (tk _) _ hk
      · have := (h3 y hy).1
        rw [e3, e4] at this
        exact NkF.mono (tk _) _ this
  refine ⟨nd, tk, gd, h.1, h.2.exN (B := c.B) (fun b o hb => ?_) (fun _ z => z) ?_⟩
  · by_cases q : b = cn.m
    · subst q
      rw [h1] at hb
      cases hb
      exact ⟨_, upd_same, .inr ⟨rfl, xs, _, rfl, h2, rfl, nd, gd⟩⟩
    · exact ⟨o, by rw [upd_ne q]; exact hb, .inl rfl⟩
  · obtain ⟨Hz, _, _⟩ := h.2.iv
    exact ⟨fun _ => none, trivial, fun _ _ z => nomatch z⟩
end
end Lt
namespace Lt
open PySem PySem.Spec PyProof.Rows L2 Evl
open SX (S)
mutual
def plainD : Dt → Bool
  | .ob _ _ => false
  | .tup ds => plainDs ds
  | .tpk ds => plainDs ds
  | .lst ds => plainDs ds
  | .dic _ ds => plainDs ds
  | _ => true
def plainDs : List Dt → Bool
  | [] => true
  | d :: ds => plainD d && plainDs ds
end
end Lt
namespace Lt
open PySem PySem.Spec PyProof.Rows L2 Evl
open PySem.W (EachIs AllAlike Sortable dataLe)
open SX (S)
variable [ZI]
/-- a method of a list that only looks, of one argument -/
@[reducible] def pLst1 (z : Dt → Dt → DQ → Prop) (pa : PTE) (ob : Opd) : PTE := fun s Q => pa s fun _ d s1 => match d with
  | .lst a => pOpd ob s1 fun gb s2 => match gb s2 with
    | some y => z (.lst a) y fun b d => Q b d s2
    | none => False
  | _ => False
theorem ce_lst1 {c : Ctx} {K : PySem.W.Frag} {r : V → List V → Hp → VK → Prop} {z : Dt → Dt → DQ → Prop} {ta tb : TE} {pa : PTE} {ob : Opd} (hz : OpZ (fun x y H Q => r x [y] H Q) z) (ha : CE c ta pa) (hb : CO c tb ob) : CE c (tBM K "list" r ta (tCons tb tNil)) (pLst1 z pa ob) := fun F s σ H Q R h hp k =>
  ha F s σ H _ _ h hp fun b d s1 v H1 q h1 => by
    split at q
    · rename_i a
      have hm := h1.mkfz
      obtain ⟨p0, xs0, ev, hx0, _⟩ := (show Wk (s1.zip σ ++ ((.fz (.lst a), some v) :: F)) (.lst a) v from .inl (List.mem_append_right _ (List.mem_cons_self ..))).lst hm.2
      refine ⟨by rw [ev]; exact ty_lst hx0, hb _ s1 σ H1 _ _ hm q fun gb s2 v2 H2 F2 q2 h2 w2 => ?_⟩
      split at q2
      · rename_i y ey
        have hx : Wk (s2.zip σ ++ (F2 ++ ((.fz (.lst a), some v) :: F))) (.lst a) v := .inl (List.mem_append_right _ (List.mem_append_right _ (List.mem_cons_self ..)))
        refine hz c _ H2 v v2 (.lst a) y Q _ h2.2 hx (w2 s2 [] H2 y ey h2) q2 fun b d v' H' rd hl => k _ _ _ _ _ rd ?_
        exact Rel.res (F2 := F2 ++ [(.fz (.lst a), some v)]) h2.1 (by rw [List.append_assoc]; exact hl)
      · exact q2.elim
    · exact q.elim
end Lt
namespace Lt
open PySem PySem.Spec PyProof.Rows L2 Evl
open SX (S)
variable [ZI]
theorem turns_rev {row held : List Nat} {q : Nat × Nat} (h : q ∈ turnsM row held) : (row.length - 1 - q.2, row.length - 1 - q.1) ∈ turnsM row.reverse held := by
  have h1 : whyM row held (q.1 : Int) q.2 = [] := by
    have := whyM_turns h
    exact this
  exact turns_why (whyM_rev h1)
theorem PthM.rev {ps u0 u : List Nat} {c : Nat} (h : PthM ps u0 c u) : PthM ps u0.reverse c u.reverse := by
  induction h with
  | nil => exact .nil
  | snoc h1 hq ih =>
    rename_i c u q
    obtain ⟨q1, q2, _, q4⟩ := turnsM_mem hq
    have h2 := PthM.snoc ih (turns_rev hq)
    have e1 : stM u.reverse (u.length - 1 - q.2, u.length - 1 - q.1) = (stM u q).reverse := turnM_rev (by omega) q2
    have e2 : wM ps u.reverse (u.length - 1 - q.2, u.length - 1 - q.1) = wM ps u q := by
      unfold wM
      dsimp only
      rw [rev_getD (by omega), show u.length - 1 - (u.length - 1 - q.2) = q.2 by omega, q4]
    rw [e1, e2] at h2
    exact h2
theorem Dist.rev {ps u0 u : List Nat} {c : Nat} (h : Dist ps u0 c u) : Dist ps u0.reverse c u.reverse := ⟨h.1.rev, fun d hd => h.2 d (by
  have := hd.rev
  rwa [List.reverse_reverse, List.reverse_reverse] at this)⟩
end Lt
namespace Lt
open PySem PySem.Spec PyProof.Rows L2 Evl
open SX (S)
/-- an own exception class, as a Bool of the written part -/
def oexB (K : PySem.W.Frag) (C : Addr) : Bool :=
  (match K.lookup C with
  | some ⟨.type "type", _, .cls cd, sl⟩ => (match cd.mro, sl.toList with
    | .ref C' :: bm, [_, _, _, _, some (.builtin n), _] => (C' == C) && ((n == "ValueError.__new__") && (!cd.hasDel && (cd.hasDict && PySem.HandSPX.refsVE bm)))
    | _, _ => false)
  | _ => false) && (decide (PySem.W.findIn K (.ref C) "__setattr__" = some (some (.builtin "object.__setattr__"))) && (decide (PySem.W.subIn K (.ref C) (.type "BaseException") = some true) && (decide (PySem.W.typeIn K (.ref C) = some (.type "type")) && PySem.W.keepIn K (.ref C))))
theorem bAnd {a b : Bool} (h : (a && b) = true) : a = true ∧ b = true := Bool.and_eq_true_iff.mp h
theorem oexB_ok {K : PySem.W.Frag} {C : Addr} (h : oexB K C = true) : OexC K C := by
  unfold oexB at h
  obtain ⟨h1, h⟩ := bAnd h
  obtain ⟨h2, h⟩ := bAnd h
  obtain ⟨h3, h⟩ := bAnd h
  obtain ⟨h4, h5⟩ := bAnd h
  refine ⟨?_, of_decide_eq_true h2, of_decide_eq_true h3, of_decide_eq_true h4, h5⟩
  split at h1
  · rename_i dd cd sl ho
    split at h1
    · rename_i C' bm k0 k1 k2 k3 n k5 hm hs
      obtain ⟨g1, g⟩ := bAnd h1
      obtain ⟨g2, g⟩ := bAnd g
      obtain ⟨g3, g⟩ := bAnd g
      obtain ⟨g4, g5⟩ := bAnd g
      have e1 : C' = C := eq_of_beq g1
      have e2 : n = "ValueError.__new__" := eq_of_beq g2
      subst e1 e2
      obtain ⟨nm, bs, mro, ns, qn, hd, sn, sb, ab, col, del⟩ := cd
      obtain ⟨l⟩ := sl
      have hm : mro = .ref C' :: bm := hm
      have hs : l = [k0, k1, k2, k3, some (.builtin "ValueError.__new__"), k5] := hs
      have g3' : (!del) = true := g3
      have g4' : hd = true := g4
      have g6 : del = false := by cases del <;> first | rfl | cases g3'
      subst hm hs g6 g4'
      exact ⟨nm, qn, ns, bs, bm, sn, sb, ab, col, dd, k0, k1, k2, k3, k5, ho, g5⟩
    · cases h1
  · cases h1
def excB (K : PySem.W.Frag) (D : Addr) : Bool :=
  decide (PySem.W.findIn K (.ref D) "__getattribute__" = some (some (.builtin "BaseException.__getattribute__"))) && (decide (PySem.W.findIn K (.ref D) "__getattr__" = some none) && (decide (PySem.W.subIn K (.ref D) (.type "BaseException") = some true) && (PySem.W.hasDictIn K D &&
    (decide (PySem.W.findIn K (.ref D) "__class__" = some (some (.builtin "object.__class__"))) && (decide (PySem.W.specialIn K (.builtin "object.__class__") "__get__" = some (some (.builtin "getset_descriptor.__get__"))) && (decide (PySem.W.takesIn K (.builtin "object.__class__") = some true) && decide (PySem.W.mroIn K D (.type "object") = some true)))))))
theorem excB_ok {K : PySem.W.Frag} {D : Addr} (h : excB K D = true) : ExcC K D := by
  obtain ⟨h1, h⟩ := bAnd h
  obtain ⟨h2, h⟩ := bAnd h
  obtain ⟨h3, h⟩ := bAnd h
  obtain ⟨h4, h⟩ := bAnd h
  obtain ⟨h5, h⟩ := bAnd h
  obtain ⟨h6, h⟩ := bAnd h
  obtain ⟨h7, h8⟩ := bAnd h
  exact ⟨of_decide_eq_true h1, of_decide_eq_true h2, of_decide_eq_true h3, h4, of_decide_eq_true h5, of_decide_eq_true h6, of_decide_eq_true h7, of_decide_eq_true h8⟩
/-- isinstance(e, c) of the caught exception, with a dict or without -/
theorem call_isD {X : Cx} {a D : Addr} {oe : Obj} {d : Option Addr} {pn : List (Addr × Obj)} (C : ExcC X.K D) (hz : Zc (.ref D) d oe) (hf : ∃ vs, oe.data = .fields vs) :
    CallR (X.suite a ((a, oe) :: pn)) (.builtin "isinstance") (fun xs H Q => (∀ dd, d = some dd → ∃ fs, H dd = some (.xd fs)) ∧ rIsE X.K D a xs H Q) := by
  intro pins s σ H xs us Q I r h
  obtain ⟨hd, c, cv, b, rfl, hcv, e, q⟩ := h
  cases r with
  | cons rx rr =>
    cases rr with
    | cons rt rr =>
      cases rr
      cases rx
      have ec := hcv _ rt
      subst ec
      obtain ⟨hget, _⟩ := I.pin (a, oe) (List.mem_append.mpr (.inl List.mem_cons_self))
      obtain ⟨vs, hv⟩ := hf
      have J : ∃ od, PySem.W.InstAt s.heap a oe D od := by
        obtain ⟨oc, od, oda, osl⟩ := oe
        obtain ⟨h1, h2⟩ := hz
        dsimp only at h1 h2 hv
        subst h1 h2 hv
        cases od with
        | none => exact ⟨none, hget, rfl, rfl, trivial⟩
        | some dd =>
          obtain ⟨fs, hx⟩ := hd dd rfl
          have hok : ObjOk X.prog X.w H s.heap dd (.xd fs) := I.hok dd _ hx
          obtain ⟨mA, hns, _⟩ := hok
          obtain ⟨o, ho, _⟩ := lookIn_ns hns
          exact ⟨some o, hget, rfl, rfl, ho⟩
      obtain ⟨od, J⟩ := J
      have hcl : (PySem.W.clsIn X.K D).isSome = true := by
        obtain ⟨cd, hc, _⟩ := PySem.W.any_some C.hd
        rw [hc]; rfl
      exact PySem.W.kia_one (PySem.W.kitx_exc hcl C.hg C.hk C.hs C.ha C.hn C.ht C.hm) I.kIn J e (fun z => nomatch z) fun tk => ⟨.bl b, H, I.kept (t' := tk) fun _ _ z => z, rfl, q⟩
structure Ini (K : PySem.W.Frag) (T : Addr) : Prop where
  rd : PySem.W.readsIn K T (.type "type") = true
  ga : PySem.W.specialIn K (.ref T) "__getattribute__" = some (some (.builtin "type.__getattribute__"))
  at_ : PySem.W.findCls K (.ref T) (.type "type") "__init__" = some (.val (.builtin "ValueError.__init__"))
def iniB (K : PySem.W.Frag) (T : Addr) : Bool :=
  PySem.W.readsIn K T (.type "type") && (decide (PySem.W.specialIn K (.ref T) "__getattribute__" = some (some (.builtin "type.__getattribute__"))) && (match PySem.W.findCls K (.ref T) (.type "type") "__init__" with
    | some (.val (.builtin n)) => n == "ValueError.__init__"
    | _ => false))
theorem iniB_ok {K : PySem.W.Frag} {T : Addr} (h : iniB K T = true) : Ini K T := by
  obtain ⟨h1, h⟩ := bAnd h
  obtain ⟨h2, h3⟩ := bAnd h
  refine ⟨h1, of_decide_eq_true h2, ?_⟩
  split at h3
  · rename_i n e
    have := eq_of_beq h3
    subst this
    exact e
  · cases h3
section
variable {X : Cx} {e : Expr} {es : List Expr} {ta : TA} {x : Str} {p1 p2 pos : Pos} {T : Addr}
theorem pe_init {pl : Sem Bool} (k : Ini X.K T) (hg : Gl X x) (hm : X.mg x = some (.ref T)) (ha : PA X (e :: es) ta) (hdb : (x == ("__debug__" : Str)) = false := by decide)
    (hc : eval (.Call (.Attribute (.Name x p1) "__init__" p2) (e :: es) [] pos) X.env = (do
      let ov ← eval (.Name x p1) X.env
      standAt p2.atName
      let (f, first) ← holding [ov] (getMethod ov "__init__" pl)
      callWith pos f first (backTo pos (starEach (e :: es) X.env)) (backToKw pos (keywordEach [] X.env))) := by rfl)
    (he : starEach (e :: es) X.env = (false, eval e X.env) :: starEach es X.env := by rfl) (hpl : (backTo pos (starEach es X.env)).any (·.1) = false := by rfl) :
    PE X (.Call (.Attribute (.Name x p1) "__init__" p2) (e :: es) [] pos) (tVeI X.K ta) := ⟨fun pins s σ H Q I h => by
  refine PySem.W.methodCall_KW (ld_glob I hg hm ?_ hdb) hc
  refine PySem.W.method_cls I.kIn k.ga (PySem.W.cls_value I.kIn k.rd k.at_ rfl ?_)
  show wpAny _ _ (callWith pos (Value.builtin "ValueError.__init__") [] _ []) _ _ _
  refine PyProof.Rows.callWith_method1 (thn (ha.run pos pins _ σ H _ (I.tok _) h) fun us s1 z => ?_) he hpl
  obtain ⟨vs, H1, I1, r1, a, C, ws, ev, hl, T, ea, q⟩ := z
  subst ev
  cases r1
  rename_i u0 ur ra rw
  cases (show u0 = Value.ref a from ra)
  refine oinit_ok T I1 ea ?_ fun s' J => ⟨V.non, H1, J, rfl, q⟩
  rw [sizeLine_eq, ← Paired.length rw]
  omega⟩
end
end Lt
namespace Lt
open PySem PySem.Spec PyProof.Rows L2 Evl
open SX (S)
/-- an exception: its class's name, its fields (the last one set first) -/
structure Xd where
  cls : Str
  fs : List (Str × V) := []
abbrev XQ := Xd → Prop
abbrev PFX := List Dt → DQ → XQ → Prop
def XF : XQ := fun _ => False
def XR (mg : Str → Option Value) (x : Xd) (cls : Value) (d : Option Addr) (H : Hp) : Prop := mg x.cls = some cls ∧ ((x.fs = [] ∧ d = none) ∨ ∃ dd, d = some dd ∧ H dd = some (.xd x.fs))
theorem XR.mono {mg : Str → Option Value} {x : Xd} {cls : Value} {d : Option Addr} {H H' : Hp} (h : XR mg x cls d H) (e : ∀ dd, d = some dd → H dd = some (.xd x.fs) → H' dd = some (.xd x.fs)) : XR mg x cls d H' :=
  ⟨h.1, h.2.imp id fun ⟨dd, e1, e2⟩ => ⟨dd, e1, e dd e1 e2⟩⟩
/-- in a def that lets nothing out, a call that lets nothing out now -/
def EF : XK := fun _ _ _ => False
theorem passF {X : Cx} : Passes (L2.CX X.prog X.w) X EF := fun _ _ _ _ _ _ _ h => by
  obtain ⟨_, _, _, _, _, _, _, _, _, _, _, _, h⟩ := h
  exact h.elim
section
variable [ZI] {c : Ctx} {L : List Pc} {H H' : Hp} {mg : Str → Option Value} {X : XQ} {E : XK}
def LX (c : Ctx) (mg : Str → Option Value) (X : XQ) (E : XK) : Prop := ∀ x cls d H, X x → RelL c [] H → XR mg x cls d H → E cls d H
theorem lxF : LX c mg XF E := fun _ _ _ _ h => h.elim
theorem RelL.un {v : Option V} (h : RelL c L H) : RelL c ((.un, v) :: L) H := ⟨h.nd, fun x hx => by
  rcases List.mem_cons.mp hx with rfl | hx
  · trivial
  · exact h.ok x hx, h.old, h.iv⟩
theorem RelL.nil (h : RelL c L H) : RelL c [] H := h.sub (List.nil_sublist _)
theorem RelL.call0 (h : RelL c L H) (k : RelL (subCtx c L H) [] H') : RelL c L H' := (h.call (x := (.un, none)) k.un).drop
theorem LX.sub (lx : LX c mg X E) (h : RelL c L H) : LX (subCtx c L H) mg X E := fun x cls d H' hx hr r => lx x cls d H' hx (h.call0 hr).nil r
def spX (mg : Str → Option Value) (pf : PFX) : Sp := fun vs H Q E => ∃ (A Zd : Addr → Prop) (ds : List Dt) (R : DQ) (X : XQ), FrAll A H ds vs ∧ Iv (baseCtx A Zd H) H ∧ pf ds R X ∧ (∀ b d v H', R b d → RelL (baseCtx A Zd H) [(mkS b d, some v)] H' → Q v H') ∧ LX (baseCtx A Zd H) mg X E
def PureOfX (mg : Str → Option Value) (sp : Sp) (pf : PFX) : Prop := ∀ (c : Ctx) (L : List Pc) (H : Hp) (vs : List V) (ds : List Dt) (Q : VK) (R : DQ) (X : XQ) (E : XK), RelL c L H → FrAll (Al c L) H ds vs → pf ds R X → (∀ b d v H', R b d → RelL (subCtx c L H) [(mkS b d, some v)] H' → Q v H') → LX (subCtx c L H) mg X E → sp vs H Q E
theorem pure_spX {pf : PFX} : PureOfX mg (spX mg pf) pf := fun c L H vs ds Q R X E h hf hp k lx => ⟨Al c L, fun b => c.Zd b ∨ c.H0 b = none, ds, R, X, hf, Iv.sub h, hp, k, lx⟩
theorem spX_len {pf : PFX} {n : Nat} (h : ∀ ds R X, pf ds R X → ds.length = n) : ∀ vs H Q E, spX mg pf vs H Q E → vs.length = n := fun vs H Q E ⟨A, Zd, ds, R, X, hf, _, hp, _⟩ => by rw [hf.length]; exact h _ _ _ hp
@[reducible] def pCallX (pf : PFX) (pa : PTA) (X : XQ) : PTE := fun s Q => pa s fun ds s' => pf ds (fun b d => Q b d s') X
theorem ce_callX {sp : Sp} {pf : PFX} {t : TA} {pa : PTA} (lx : LX c mg X E) (ha : CA c t pa) (hf : PureOfX mg sp pf) : CE c (tCall sp [] E t) (pCallX pf pa X) := fun F s σ H Q R h hp k =>
  ha F s σ H _ _ h hp fun ds s1 vs H1 q e h1 => by
    show sp (vs ++ []) H1 Q E
    rw [List.append_nil]
    exact hf c _ H1 vs ds Q _ X E (fzs_drop h1).2 (fzs_fr e h1) q (fun b d v H' rd hl => k _ _ _ _ _ rd (.of_top h1.1 ((fzs_drop h1).2.call hl))) (lx.sub (fzs_drop h1).2)
def tRaise (t : L2.St → Hp → XK → Prop) (E : XK) : TS := fun _ σ H => t σ H fun cls d H' => E cls d H'
theorem ps_raiseZ {Y : Cx} {e : Expr} {t : L2.St → Hp → XK → Prop} {pos : Pos} (hc : Y.calm = true) (tk : Takes Y (fun cls d _ H => E cls d H)) (he : PMk Y e t) : PS Y (.Raise (some e) none pos) (tRaise t E) := ps_raise hc tk he
/-- what __init__(self, e, ..) promises: it sets the fields, in turn -/
def spIni (K : PySem.W.Frag) (flds : List Str) : Sp := fun vs H Q _ => ∃ (a C : Addr) (ws : List V), vs = .ref a :: ws ∧ H a = some (exo a C none) ∧ OexC K C ∧ (∀ f ∈ flds, PySem.W.findIn K (.ref C) f = some none) ∧ ws.length = flds.length ∧
  ∀ dx, H dx = none → dx ≠ a → Q .non (upd (upd H dx (exd dx (flds.zip ws).reverse)) a (exo a C (some dx)))
@[reducible] def pRaiseN (n : Str) (flds : List Str) (pa : PTA) (X : XQ) : PTS := fun _ s => pa s fun ds _ => ∃ ws : List V, ds.map fltD = ws.map some ∧ ws.length = flds.length ∧ X ⟨n, (flds.zip ws).reverse⟩
theorem cs_raiseN {K : PySem.W.Frag} {n : Str} {C : Addr} {flds : List Str} {t : TA} {pa : PTA} (lx : LX c mg X E) (hm : mg n = some (.ref C)) (T : OexC K C) (hn : ∀ f ∈ flds, PySem.W.findIn K (.ref C) f = some none) (hl : flds.length ≤ 1000) (ha : CA c t pa) :
    CS c (tRaise (tMkO C (spIni K flds) [] t) E) (pRaiseN n flds pa X) := fun F s σ H D P hr hp k =>
  ha F s σ H _ _ hr hp fun ds s1 vs H1 ⟨ws, e1, e2, hx⟩ e h1 => by
    have hv : vs = ws := (flt_all (fzs_fr e h1) e1).1
    subst hv
    refine ⟨by omega, fun a na => ⟨a, C, vs, by rw [List.append_nil], upd_same, T, hn, e2, fun dx nd ne => ⟨rfl, dx, (flds.zip vs).reverse, upd_same, ?_, ?_, ?_⟩⟩⟩
    · rw [upd_ne ne, upd_same]
    · rw [upd_ne ne] at nd; exact nd
    · have nd1 : H1 dx = none := by rw [upd_ne ne] at nd; exact nd
      have ex : Ex H1 (upd (del (upd (upd (upd H1 a (exo a C none)) dx (exd dx (flds.zip vs).reverse)) a (exo a C (some dx))) a) dx (.xd (flds.zip vs).reverse)) := fun b o hb => by
        have n1 : b ≠ dx := ne_of_none hb nd1
        have n2 : b ≠ a := ne_of_none hb na
        rw [upd_ne n1, del_ne n2, upd_ne n2, upd_ne n1, upd_ne n2]; exact hb
      exact lx _ _ _ _ hx ((fzs_drop h1).2.nil.ex ex) ⟨hm, .inr ⟨dx, rfl, upd_same⟩⟩
end
section
variable {K : PySem.W.Frag} {H : Hp} {Q : VK} {D : Ends} {E : XK}
theorem ini_run1 {f : Str} {vs : List V} {g : L2.St → Hp → Prop} (h : spIni K [f] vs H Q E) (hg : ∀ σ H', Q .non H' → g σ H') :
    tSeq (tDrop (tVeI K (tCons (tVar 0) (tCons (tVar 1) tNil)))) (tOst K f (tVar 0) (tVar 1)) { nx := g, rt := Q } (vs.map some) H := by
  obtain ⟨a, C, ws, rfl, ha, T, hn, hl, q⟩ := h
  obtain ⟨x, rfl⟩ : ∃ x, ws = [x] := by
    cases ws with
    | nil => cases hl
    | cons x ws => cases ws with
      | nil => exact ⟨x, rfl⟩
      | cons _ _ => cases hl
  refine ⟨_, rfl, _, rfl, a, C, [x], rfl, by simp, T, ha, _, rfl, _, rfl, a, C, rfl, T, hn f (by simp), .inl ⟨ha, fun dx n ne => hg _ _ (q dx n ne)⟩⟩
theorem ini_run2 {f f2 : Str} {vs : List V} {g : L2.St → Hp → Prop} (h : spIni K [f, f2] vs H Q E) (hg : ∀ σ H', Q .non H' → g σ H') :
    tSeq (tDrop (tVeI K (tCons (tVar 0) (tCons (tVar 1) (tCons (tVar 2) tNil))))) (tSeq (tOst K f (tVar 0) (tVar 1)) (tOst K f2 (tVar 0) (tVar 2))) { nx := g, rt := Q } (vs.map some) H := by
  obtain ⟨a, C, ws, rfl, ha, T, hn, hl, q⟩ := h
  obtain ⟨x, y, rfl⟩ : ∃ x y, ws = [x, y] := by
    match ws, hl with
    | [x, y], _ => exact ⟨x, y, rfl⟩
  refine ⟨_, rfl, _, rfl, _, rfl, a, C, [x, y], rfl, by simp, T, ha, _, rfl, _, rfl, a, C, rfl, T, hn f (by simp), .inl ⟨ha, fun dx n ne => ?_⟩⟩
  refine ⟨_, rfl, _, rfl, a, C, rfl, T, hn f2 (by simp), .inr ⟨dx, [(f, x)], upd_same, by rw [upd_ne ne, upd_same], by simp, hg _ _ ?_⟩⟩
  have := q dx n ne
  have e : upd (upd (upd H dx (exd dx [(f, x)])) a (exo a C (some dx))) dx (exd dx [(f2, y), (f, x)]) = upd (upd H dx (exd dx ([f, f2].zip [x, y]).reverse)) a (exo a C (some dx)) := by
    funext b
    by_cases h1 : b = dx
    · subst h1
      rw [upd_same, upd_ne ne, upd_same]; rfl
    · rw [upd_ne h1]
      by_cases h2 : b = a
      · subst h2
        rw [upd_same, upd_same]
      · rw [upd_ne h2, upd_ne h1, upd_ne h2, upd_ne h1]
  rw [e]; exact this
end
end Lt
namespace Lt
open PySem PySem.Spec PyProof.Rows L2 Evl LamX
open SX (S)
/-- a lambda: its text; its parameters; the names that it captures -/
structure LamT where
  params : Arguments
  body : Expr
  scope : Scope
  ps : List Str
  fr : List Str
/-- the object at f is that lambda, made where the cells are cl; its defaults dV, its code object c -/
def LamO (f : Addr) (L : LamT) (q : Str) (cl : List (Str × Addr)) (dV : Value) (c : Addr) : HO := .ext fun h => ∃ (od : Option Addr) (sl : Array (Option Value)) (doc pm ctv : Value),
  h.get? f = some (⟨.type "function", od, .func (PySem.W.kdv_fn "<lambda>" q L.params (.expr L.body) L.scope (cloFrom cl L.scope.names []) dV doc pm (.ref c) ctv), sl⟩ : Obj)
theorem lamO_ne {f : Addr} {L : LamT} {q : Str} {cl : List (Str × Addr)} {dV : Value} {c : Addr} (ps : Array Value) : LamO f L q cl dV c ≠ .tbl ps := fun z => by
  unfold LamO at z
  cases z
theorem lamO_at {P : Program} {w : World} {H : Hp} {h : Heap} {f : Addr} {L : LamT} {q : Str} {cl : List (Str × Addr)} {dV : Value} {c : Addr} (hok : HOk P w H h) (e : H f = some (LamO f L q cl dV c)) :
    ∃ (od : Option Addr) (sl : Array (Option Value)) (doc pm ctv : Value), h.get? f = some (⟨.type "function", od, .func (PySem.W.kdv_fn "<lambda>" q L.params (.expr L.body) L.scope (cloFrom cl L.scope.names []) dV doc pm (.ref c) ctv), sl⟩ : Obj) := by
  obtain ⟨z, _, _⟩ := hok f _ e
  exact z
theorem lam_ok {P : Program} {w : World} {H : Hp} {h : Heap} {f : Addr} {L : LamT} {q : Str} {cl : List (Str × Addr)} {dV doc pm ctv : Value} {c : Addr}
    (e : h.get? f = some ({ cls := .type "function", data := .func (PySem.W.kdv_fn "<lambda>" q L.params (.expr L.body) L.scope (cloFrom cl L.scope.names []) dV doc pm (.ref c) ctv) } : Obj)) : ObjOk P w H h f (LamO f L q cl dV c) :=
  ⟨⟨_, _, doc, pm, ctv, e⟩, ⟨_, e⟩, fun h1 h2 ⟨od, sl, d, p, t, z⟩ st => ⟨od, sl, d, p, t, st _ z⟩⟩
/-- its defaults -/
def DflL (H : Hp) (ps : List Str) (dV : Value) : Prop := (ps = [] ∧ dV = .none) ∨ ∃ (p : Str) (T : Addr), ps = [p] ∧ dV = .ref T ∧ H T = some (.tup [.int 0])
/-- how a heap with tables grows -/
structure Grow (T : List (Addr × Str)) (H H1 : Hp) (q : Str) (c : Addr) : Prop where
  keep : ∀ b o, H b = some o → (∀ ps, o ≠ .tbl ps) → H1 b = some o
  tbl : ∀ b ps, H b = some (.tbl ps) → ∃ qs, H1 b = some (.tbl qs)
  tab : ∀ p ∈ T, ∃ ps qs, H p.1 = some (.tbl ps) ∧ H1 p.1 = some (.tbl qs) ∧ TriplesOk qs.toList ∧ ∀ (pos : Pos) (cv : Value), codeAmong pos qs.toList = some cv → codeAmong pos ps.toList = some cv ∨ (cv = .ref c ∧ p.2 = q ∧ H c = none)
  code : H1 c = some (CodeO c q)
  cn : H c = none ∨ H c = some (CodeO c q)
section
variable {X : Cx} {pins : List (Addr × Obj)} {σ : L2.St} {H : Hp} {s : Shared}
theorem lam_fn {L : LamT} {dV doc pm ctv : Value} {c : Addr} {o : Obj} {t' : Nat} (I : Inv X pins σ H s)
    (ho : o = ({ cls := .type "function", data := .func (PySem.W.kdv_fn "<lambda>" (X.env.qual ++ "<lambda>") L.params (.expr L.body) L.scope (cloFrom X.env.cells L.scope.names []) dV doc pm (.ref c) ctv) } : Obj)) :
    Inv X pins σ (upd H s.heap.objs.size (LamO s.heap.objs.size L (X.env.qual ++ "<lambda>") X.env.cells dV c)) { s with heap := s.heap.push o, toks := t' } := by
  subst ho
  exact I.laid (fun b u e => Heap.get?_push_of_some _ e) (Nat.le_refl _) (lam_ok (Heap.get?_push_size _ rfl))
/-- behind the defaults -/
theorem lam_tail {T : List (Addr × Str)} {c P : Addr} {L : LamT} {dV : Value} {pos : Pos} {E : Value → Shared → Prop} {Q : Value → Shared → Prop} (I : Inv X pins σ H s) (TB : TabB X.base X.mg c P) (hcode : X.env.code = .ref c)
    (hm : (P, X.env.qual ++ "<lambda>") ∈ T) (hu : ∀ p ∈ T, p.1 = P → p.2 = X.env.qual ++ "<lambda>") (hT : Tabs T H) (hfree : ∀ y ∈ L.scope.names, y.2 = .free → ∃ c, X.env.cells.lookup y.1 = some c)
    (h : ∀ (f c' : Addr) (H1 : Hp) (s' : Shared), Inv X pins σ H1 s' → Grow T H H1 (X.env.qual ++ "<lambda>") c' → H f = none → H1 f = some (LamO f L (X.env.qual ++ "<lambda>") X.env.cells dV c') → (∀ b, H1 b = none → H b = none) → Q (.ref f) s') :
    wpAny (model X.prog X.w) X.A (makeTail "<lambda>" (X.env.qual ++ "<lambda>") L.params (.expr L.body) L.scope X.env dV .none none pos pos.line) Q E s := by
  obtain ⟨ps, hP, ht, ha⟩ := hT _ hm
  have bP : s.heap.BuiltinsAt X.mg P := TB.bm.keeps I.bk
  have hP' : s.heap.get? P = some { cls := .none, data := .fields ps } := I.hok P _ hP
  have same : ∀ p ∈ T, p.1 ≠ P → ∀ {H1 : Hp}, (∀ b, b ≠ P → H b ≠ none → H1 b = H b) → ∃ ps qs, H p.1 = some (.tbl ps) ∧ H1 p.1 = some (.tbl qs) ∧ TriplesOk qs.toList ∧ ∀ (pos : Pos) (cv : Value), codeAmong pos qs.toList = some cv → codeAmong pos ps.toList = some cv ∨ (cv = .ref c ∧ p.2 = X.env.qual ++ "<lambda>" ∧ H c = none) := fun p hp hb H1 k => by
    obtain ⟨ps', a1, a2, a3⟩ := hT p hp
    exact ⟨ps', ps', a1, by rw [k _ hb (by rw [a1]; simp)]; exact a1, a2, fun _ _ z => .inl z⟩
  cases hc : codeAmong pos ps.toList with
  | none =>
    refine PySem.W.kdv_makeTail (mg := X.mg) (c := c) (P := P) (ps := ps) (closure_ok hfree) I.ok.glob (I.mod.glob.keeps I.bk) hcode (TB.code.keeps I.bk) hP' ht hc TB.gP bP fun c' ctv doc h' tk hx hge hlt hrec htb => ?_
    obtain ⟨c2, oc, vs, t, e2, hoc, hd, hv⟩ := hrec
    cases e2
    have nC : H c' = none := I.hok.fresh hge
    have nPc : P ≠ c' := ne_of_none hP nC
    have I1 := inv_table (t' := tk) (more := #[rawInt pos.line, rawInt pos.col, .ref c']) (h' := h') I hP (fun b o hb e => hx b o hb e) htb hge ⟨oc, vs, t, hoc, hd, hv⟩
    have nF := I1.hok.fresh (Nat.le_refl _)
    have I2 := lam_fn (L := L) (t' := tk) (doc := doc) (pm := (X.mg "__name__").getD .none) (ctv := ctv) (dV := dV) (c := c') I1 rfl
    have nF0 : H h'.objs.size = none := I.hok.fresh (Nat.le_trans hge (Nat.le_of_lt hlt))
    have nFc : h'.objs.size ≠ c' := Nat.ne_of_gt hlt
    have nFP : h'.objs.size ≠ P := fun z => by rw [z, hP] at nF0; cases nF0
    have at_ : ∀ b, b ≠ P → b ≠ c' → b ≠ h'.objs.size → upd (upd (upd H P (.tbl (ps ++ #[rawInt pos.line, rawInt pos.col, .ref c']))) c' (CodeO c' (X.env.qual ++ "<lambda>"))) h'.objs.size (LamO h'.objs.size L (X.env.qual ++ "<lambda>") X.env.cells dV c') b = H b := fun b h1 h2 h3 => by
      rw [upd_ne h3, upd_ne h2, upd_ne h1]
    have atP : upd (upd (upd H P (.tbl (ps ++ #[rawInt pos.line, rawInt pos.col, .ref c']))) c' (CodeO c' (X.env.qual ++ "<lambda>"))) h'.objs.size (LamO h'.objs.size L (X.env.qual ++ "<lambda>") X.env.cells dV c') P = some (.tbl (ps ++ #[rawInt pos.line, rawInt pos.col, .ref c'])) := by
      rw [upd_ne nFP.symm, upd_ne nPc, upd_same]
    have atC : upd (upd (upd H P (.tbl (ps ++ #[rawInt pos.line, rawInt pos.col, .ref c']))) c' (CodeO c' (X.env.qual ++ "<lambda>"))) h'.objs.size (LamO h'.objs.size L (X.env.qual ++ "<lambda>") X.env.cells dV c') c' = some (CodeO c' (X.env.qual ++ "<lambda>")) := by
      rw [upd_ne nFc.symm, upd_same]
    refine h h'.objs.size c' _ _ I2 ⟨fun b o e n => ?_, fun b qs e => ?_, fun p hp => ?_, atC, .inl nC⟩ nF0 upd_same fun b e => ?_
    · rw [at_ b (fun z => by subst z; rw [hP] at e; exact n ps (Option.some.inj e).symm) (ne_of_none e nC) (ne_of_none e nF0)]
      exact e
    · by_cases hb : b = P
      · subst hb
        exact ⟨_, atP⟩
      · exact ⟨qs, by rw [at_ b hb (ne_of_none e nC) (ne_of_none e nF0)]; exact e⟩
    · by_cases hb : p.1 = P
      · refine ⟨ps, ps ++ #[rawInt pos.line, rawInt pos.col, .ref c'], by rw [hb]; exact hP, by rw [hb]; exact atP, ?_, fun p' cv hcv => ?_⟩
        · rw [show (ps ++ #[rawInt pos.line, rawInt pos.col, Value.ref c']).toList = ps.toList ++ [rawInt pos.line, rawInt pos.col, .ref c'] by simp]
          exact PySem.TriplesOk_snoc _ _ _ _ ht
        · rw [show (ps ++ #[rawInt pos.line, rawInt pos.col, Value.ref c']).toList = ps.toList ++ [rawInt pos.line, rawInt pos.col, .ref c'] by simp] at hcv
          exact (among_app _ ht hcv).imp id fun z => ⟨z, hu p hp hb, nC⟩
      · obtain ⟨ps', a1, a2, a3⟩ := hT p hp
        exact ⟨ps', ps', a1, by rw [at_ _ hb (ne_of_none a1 nC) (ne_of_none a1 nF0)]; exact a1, a2, fun _ _ z => .inl z⟩
    · cases q : H b with
      | none => rfl
      | some o =>
        by_cases hb : b = P
        · subst hb; rw [atP] at e; cases e
        · rw [at_ b hb (ne_of_none q nC) (ne_of_none q nF0), q] at e; cases e
  | some cv =>
    obtain ⟨c', e, hco⟩ := ha pos cv hc
    subst e
    refine PySem.W.kdv_makeTailHit (mg := X.mg) (c := c) (P := P) (ps := ps) (closure_ok hfree) I.ok.glob (I.mod.glob.keeps I.bk) hcode (TB.code.keeps I.bk) hP' ht hc bP fun ctv doc h' tk hx hsz => ?_
    have I1 : Inv X pins σ H { s with heap := h', toks := tk } := I.kept hx
    have nF : H h'.objs.size = none := I1.hok.fresh (Nat.le_refl _)
    have I2 := lam_fn (L := L) (t' := tk) (doc := doc) (pm := (X.mg "__name__").getD .none) (ctv := ctv) (dV := dV) (c := c') I1 rfl
    have at_ : ∀ b o, H b = some o → upd H h'.objs.size (LamO h'.objs.size L (X.env.qual ++ "<lambda>") X.env.cells dV c') b = some o := fun b o e => by rw [upd_ne (ne_of_none e nF)]; exact e
    refine h h'.objs.size c' _ _ I2 ⟨fun b o e _ => at_ b o e, fun b qs e => ⟨qs, at_ b _ e⟩, fun p hp => ?_, at_ _ _ hco, .inr hco⟩ nF upd_same fun b e => NdefX.upd_none e
    obtain ⟨ps', a1, a2, a3⟩ := hT p hp
    exact ⟨ps', ps', a1, at_ _ _ a1, a2, fun _ _ z => .inl z⟩
end
end Lt
namespace Lt
open PySem PySem.Spec PyProof.Rows L2 Evl LamX
open SX (S)
/-- the reading of a lambda: it stands at f, new, behind it the heap is H1 -/
def tLam (T : List (Addr × Str)) (L : LamT) (q : Str) (cl : List (Str × Addr)) : TE := fun σ H Q => Tabs T H ∧ ∀ (f c : Addr) (dV : Value) (H1 : Hp), Grow T H H1 q c → (∀ b, H1 b = none → H b = none) → H f = none → H1 f = some (LamO f L q cl dV c) → DflL H1 L.ps dV → Q (.ref f) H1
section
variable {X : Cx} {T : List (Addr × Str)} {c P : Addr} {L : LamT} {pos : Pos}
theorem pe_lam0 (TB : TabB X.base X.mg c P) (hcode : X.env.code = .ref c) (hm : (P, X.env.qual ++ "<lambda>") ∈ T) (hu : ∀ p ∈ T, p.1 = P → p.2 = X.env.qual ++ "<lambda>")
    (hfree : ∀ y ∈ L.scope.names, y.2 = .free → X.env.scope.names.lookup y.1 = some .cell ∨ X.env.scope.names.lookup y.1 = some .free) (hps : L.ps = []) (hdef : defaultsOf L.params X.env = ([], [])) :
    PE X (.Lambda L.params L.body L.scope pos) (tLam T L (X.env.qual ++ "<lambda>") X.env.cells) := ⟨fun pins s σ H Q I ⟨hT, h⟩ => by
  have hfr : ∀ y ∈ L.scope.names, y.2 = .free → ∃ c, X.env.cells.lookup y.1 = some c := fun y hy e => (hfree y hy e).elim (fun z => I.ok.has _ (.inl z)) fun z => I.ok.has _ (.inr z)
  refine PySem.W.kla_eval hdef ?_
  rw [makeFunction_eq]
  simp only [List.zip_nil_right, List.filterMap_nil, List.isEmpty_nil, if_true, pure_bind]
  refine lam_tail I TB hcode hm hu hT hfr fun f c' H1 s' I1 g n hf nn => ?_
  exact ⟨.ref f, H1, I1, rfl, h f c' .none H1 g nn n hf (.inl ⟨hps, rfl⟩)⟩⟩
end
structure LamP where
  T : List (Addr × Str)
  q : Str
  cl : List (Str × Addr)
  lam : Nat → LamT
  B : Heap
/-- kinds of objects alike, but that tables may grow -/
def spT (a b : HO) : Prop := a = b ∨ ((∃ ps, a = .tbl ps) ∧ ∃ ps, b = .tbl ps)
theorem spT.trans {a b c : HO} (h : spT a b) (k : spT b c) : spT a c := by
  rcases h with rfl | ⟨h1, h2⟩
  · exact k
  · rcases k with rfl | ⟨_, k2⟩
    · exact .inr ⟨h1, h2⟩
    · exact .inr ⟨h1, k2⟩
theorem spT.fix {a b : HO} (h : spT a b) (n : ∀ ps, a ≠ .tbl ps) : b = a := by
  rcases h with rfl | ⟨⟨ps, h1⟩, _⟩
  · rfl
  · exact absurd h1 (n ps)
@[reducible] def ziS : ZI where
  ch o := ∃ ps, o = .tbl ps
  ch_fix h z := by obtain ⟨ps, rfl⟩ := z; cases h
  ch_ext h := by obtain ⟨ps, h⟩ := h; cases h
  sp _ _ _ a b := spT a b
  sp_rfl _ := .inl rfl
  sp_trans h _ k := h.trans k
  sp_ch h := h.imp Eq.symm id
  Z _ := True
  ob _ _ _ _ _ := False
  ob_ref h := h.elim
  ob_mono _ h := h.elim
  ob_lock _ h := h.elim
mutual
theorem frE_S {A : Addr → Prop} {H : Hp} : ∀ (d : Dt) {v : V}, @Fr ziE A H d v → @Fr ziS A H d v
  | .non, _, r => r
  | .bl _, _, r => r
  | .int _, _, r => r
  | .str _, _, r => r
  | .val _, _, r => r
  | .dice, _, r => r
  | .ob _ _, _, r => False.elim r
  | .tup ds, _, ⟨a, xs, e, ha, hr, hk⟩ => ⟨a, xs, e, ha, hr, frsE_S ds hk⟩
  | .tpk ds, _, ⟨a, xs, o, e, ha, hr, ho, hk⟩ => ⟨a, xs, o, e, ha, hr, ho, frsE_S ds hk⟩
  | .lst ds, _, ⟨a, xs, e, ha, hr, hk⟩ => ⟨a, xs, e, ha, hr, frsE_S ds hk⟩
  | .dic _ ds, _, ⟨a, ws, e, ha, hr, ek, hk⟩ => ⟨a, ws, e, ha, hr, ek, frsE_S ds hk⟩
theorem frsE_S {A : Addr → Prop} {H : Hp} : ∀ (ds : List Dt) {vs : List V}, @FrAll ziE A H ds vs → @FrAll ziS A H ds vs
  | [], _, r => r
  | d :: ds, _, ⟨v, ws, e, h1, h2⟩ => ⟨v, ws, e, frE_S d h1, frsE_S ds h2⟩
end
mutual
theorem frS_E {A : Addr → Prop} {H : Hp} : ∀ (d : Dt) {v : V}, @Fr ziS A H d v → @Fr ziE A H d v
  | .non, _, r => r
  | .bl _, _, r => r
  | .int _, _, r => r
  | .str _, _, r => r
  | .val _, _, r => r
  | .dice, _, r => r
  | .ob _ _, _, r => False.elim r
  | .tup ds, _, ⟨a, xs, e, ha, hr, hk⟩ => ⟨a, xs, e, ha, hr, frsS_E ds hk⟩
  | .tpk ds, _, ⟨a, xs, o, e, ha, hr, ho, hk⟩ => ⟨a, xs, o, e, ha, hr, ho, frsS_E ds hk⟩
  | .lst ds, _, ⟨a, xs, e, ha, hr, hk⟩ => ⟨a, xs, e, ha, hr, frsS_E ds hk⟩
  | .dic _ ds, _, ⟨a, ws, e, ha, hr, ek, hk⟩ => ⟨a, ws, e, ha, hr, ek, frsS_E ds hk⟩
theorem frsS_E {A : Addr → Prop} {H : Hp} : ∀ (ds : List Dt) {vs : List V}, @FrAll ziS A H ds vs → @FrAll ziE A H ds vs
  | [], _, r => r
  | d :: ds, _, ⟨v, ws, e, h1, h2⟩ => ⟨v, ws, e, frS_E d h1, frsS_E ds h2⟩
end
theorem frsE_mono {A A' : Addr → Prop} {H H' : Hp} (h : ∀ a o, A a → H a = some o → A' a ∧ ∃ o', H' a = some o' ∧ spT o o') {ds : List Dt} {vs : List V} (r : @FrAll ziE A H ds vs) : @FrAll ziE A' H' ds vs :=
  frsS_E ds (@FrAll.monoN ziS A A' H H' h ds vs (frsE_S ds r))
/-- what the cells of the names fr hold in B -/
def CellV (cl : List (Str × Addr)) (B : Heap) : List Str → List V → Prop
  | [], ws => ws = []
  | y :: fr, ws => ∃ w ws', ws = w :: ws' ∧ (∃ c u, cl.lookup y = some c ∧ B.IsCell c (some u) ∧ RelV w u) ∧ CellV cl B fr ws'
/-- v is the lambda i -/
def LamAt (p : LamP) (i : Nat) (A : Addr → Prop) (H : Hp) (v : V) : Prop := ∃ (f c : Addr) (dV : Value), v = .ref f ∧ A f ∧ H f = some (LamO f (p.lam i) p.q p.cl dV c) ∧ A c ∧ H c = some (CodeO c p.q) ∧ DflL H (p.lam i).ps dV ∧ ∀ T, dV = .ref T → A T
theorem LamAt.mono {p : LamP} {i : Nat} {A A' : Addr → Prop} {H H' : Hp} {v : V} (h : ∀ a o, A a → H a = some o → A' a ∧ ∃ o', H' a = some o' ∧ spT o o') (k : LamAt p i A H v) : LamAt p i A' H' v := by
  obtain ⟨f, c, dV, e, h1, h2, h3, h4, h5, h6⟩ := k
  obtain ⟨g1, o1, g2, g3⟩ := h f _ h1 h2
  rw [g3.fix lamO_ne] at g2
  obtain ⟨g4, o2, g5, g6⟩ := h c _ h3 h4
  rw [g6.fix codeO_ne] at g5
  refine ⟨f, c, dV, e, g1, g2, g4, g5, ?_, fun T eT => ?_⟩
  · rcases h5 with h5 | ⟨x, T, e1, e2, e3⟩
    · exact .inl h5
    · obtain ⟨_, o3, g7, g8⟩ := h T _ (h6 T e2) e3
      rw [g8.fix (fun ps z => by cases z)] at g7
      exact .inr ⟨x, T, e1, e2, g7⟩
  · rcases h5 with ⟨_, h5⟩ | ⟨x, T', e1, e2, e3⟩
    · rw [h5] at eT; cases eT
    · rw [e2] at eT
      cases eT
      exact (h T _ (h6 T e2) e3).1
theorem lock_sp {A A' : Addr → Prop} {H H' : Hp} (h : ∀ a o, A a → H a = some o → A' a ∧ (H' a = some o ∨ ∃ ws, Rd H a (.dK ws) ∧ Rd H' a (.dK ws))) : ∀ a o, A a → H a = some o → (∀ u, o ≠ .dK u) → (∀ b u, o ≠ .frz b u) → A' a ∧ H' a = some o := fun a o ha ho n1 n2 => by
  obtain ⟨h1, h2⟩ := h a o ha ho
  refine ⟨h1, ?_⟩
  rcases h2 with h2 | ⟨ws, h2 | ⟨b, h2⟩, _⟩
  · exact h2
  · rw [ho] at h2; exact absurd (Option.some.inj h2) (n1 _)
  · rw [ho] at h2; exact absurd (Option.some.inj h2) (n2 _ _)
theorem LamAt.lock {p : LamP} {i : Nat} {A A' : Addr → Prop} {H H' : Hp} {v : V} (h : ∀ a o, A a → H a = some o → A' a ∧ (H' a = some o ∨ ∃ ws, Rd H a (.dK ws) ∧ Rd H' a (.dK ws))) (k : LamAt p i A H v) : LamAt p i A' H' v := by
  have hs := lock_sp h
  obtain ⟨f, c, dV, e, h1, h2, h3, h4, h5, h6⟩ := k
  obtain ⟨g1, g2⟩ := hs f _ h1 h2 (fun u z => by unfold LamO at z; cases z) (fun b u z => by unfold LamO at z; cases z)
  obtain ⟨g4, g5⟩ := hs c _ h3 h4 (fun u z => by unfold CodeO at z; cases z) (fun b u z => by unfold CodeO at z; cases z)
  refine ⟨f, c, dV, e, g1, g2, g4, g5, ?_, fun T eT => ?_⟩
  · rcases h5 with h5 | ⟨x, T, e1, e2, e3⟩
    · exact .inl h5
    · obtain ⟨_, g7⟩ := hs T _ (h6 T e2) e3 (fun u z => by cases z) (fun b u z => by cases z)
      exact .inr ⟨x, T, e1, e2, g7⟩
  · rcases h5 with ⟨_, h5⟩ | ⟨x, T', e1, e2, e3⟩
    · rw [h5] at eT; cases eT
    · rw [e2] at eT
      cases eT
      exact (hs T _ (h6 T e2) e3 (fun u z => by cases z) (fun b u z => by cases z)).1
theorem frsE_lock {A A' : Addr → Prop} {H H' : Hp} (h : ∀ a o, A a → H a = some o → A' a ∧ (H' a = some o ∨ ∃ ws, Rd H a (.dK ws) ∧ Rd H' a (.dK ws))) {ds : List Dt} {vs : List V} (r : @FrAll ziE A H ds vs) : @FrAll ziE A' H' ds vs := by
  have r1 := @FrAll.dom ziE A H ds vs r
  have r2 := @FrAll.lock ziE (fun a => A a ∧ H a ≠ none) H H' (fun a o ha ho => (h a o ha.1 ho).2) ds vs r1
  refine @FrAll.mono ziE _ A' H' H' (fun a o ha ho => ⟨?_, ho⟩) ds vs r2
  cases q : H a with
  | none => exact absurd q ha.2
  | some u => exact (h a u ha.1 q).1
/-- an object of an own class, that stays as it is: its class's place, its fields' names, what they hold -/
def obE (i : Nat) (ds : List Dt) (A : Addr → Prop) (H : Hp) (v : V) : Prop := ∃ (p dx : Addr) (ns : List (List Nat)) (es : List Dt) (xs : List V), ds = .tup (ns.map .str) :: es ∧ v = .ref p ∧ A p ∧ H p = some (.ins i dx ((ns.map S).zip xs)) ∧ @FrAll ziE A H es xs
/-- data, and objects that stay -/
@[reducible] def ziF : ZI where
  ch _ := False
  ch_fix _ h := h
  ch_ext h := h.elim
  sp _ _ _ a b := a = b
  sp_rfl _ := rfl
  sp_trans h _ k := h.trans k
  sp_ch h := .inl h.symm
  Z _ := True
  ob := obE
  ob_ref h := by obtain ⟨p, _, _, _, _, _, e, _⟩ := h; exact ⟨p, e⟩
  ob_mono h k := by
    obtain ⟨p, dx, ns, es, xs, e1, e2, e3, e4, e5⟩ := k
    obtain ⟨h1, o', h2, h3⟩ := h p _ e3 e4
    have h3 : _ = o' := h3
    rw [← h3] at h2
    exact ⟨p, dx, ns, es, xs, e1, e2, h1, h2, @FrAll.monoN ziE _ _ _ _ h _ _ e5⟩
  ob_lock h k := by
    obtain ⟨p, dx, ns, es, xs, e1, e2, e3, e4, e5⟩ := k
    obtain ⟨h1, h2⟩ := lock_sp h p _ e3 e4 (fun u z => by cases z) (fun b u z => by cases z)
    exact ⟨p, dx, ns, es, xs, e1, e2, h1, h2, frsE_lock h e5⟩
/-- .. where tables may grow -/
@[reducible] def ziG : ZI where
  ch o := ∃ ps, o = .tbl ps
  ch_fix h z := by obtain ⟨ps, rfl⟩ := z; cases h
  ch_ext h := by obtain ⟨ps, h⟩ := h; cases h
  sp _ _ _ a b := spT a b
  sp_rfl _ := .inl rfl
  sp_trans h _ k := h.trans k
  sp_ch h := h.imp Eq.symm id
  Z _ := True
  ob := obE
  ob_ref h := by obtain ⟨p, _, _, _, _, _, e, _⟩ := h; exact ⟨p, e⟩
  ob_mono h k := by
    obtain ⟨p, dx, ns, es, xs, e1, e2, e3, e4, e5⟩ := k
    obtain ⟨h1, o', h2, h3⟩ := h p _ e3 e4
    rw [h3.fix (fun ps z => by cases z)] at h2
    exact ⟨p, dx, ns, es, xs, e1, e2, h1, h2, frsE_mono h e5⟩
  ob_lock h k := by
    obtain ⟨p, dx, ns, es, xs, e1, e2, e3, e4, e5⟩ := k
    obtain ⟨h1, h2⟩ := lock_sp h p _ e3 e4 (fun u z => by cases z) (fun b u z => by cases z)
    exact ⟨p, dx, ns, es, xs, e1, e2, h1, h2, frsE_lock h e5⟩
mutual
theorem frF_G {A : Addr → Prop} {H : Hp} : ∀ (d : Dt) {v : V}, @Fr ziF A H d v → @Fr ziG A H d v
  | .non, _, r => r
  | .bl _, _, r => r
  | .int _, _, r => r
  | .str _, _, r => r
  | .val _, _, r => r
  | .dice, _, r => r
  | .ob _ _, _, r => r
  | .tup ds, _, ⟨a, xs, e, ha, hr, hk⟩ => ⟨a, xs, e, ha, hr, frsF_G ds hk⟩
  | .tpk ds, _, ⟨a, xs, o, e, ha, hr, ho, hk⟩ => ⟨a, xs, o, e, ha, hr, ho, frsF_G ds hk⟩
  | .lst ds, _, ⟨a, xs, e, ha, hr, hk⟩ => ⟨a, xs, e, ha, hr, frsF_G ds hk⟩
  | .dic _ ds, _, ⟨a, ws, e, ha, hr, ek, hk⟩ => ⟨a, ws, e, ha, hr, ek, frsF_G ds hk⟩
theorem frsF_G {A : Addr → Prop} {H : Hp} : ∀ (ds : List Dt) {vs : List V}, @FrAll ziF A H ds vs → @FrAll ziG A H ds vs
  | [], _, r => r
  | d :: ds, _, ⟨v, ws, e, h1, h2⟩ => ⟨v, ws, e, frF_G d h1, frsF_G ds h2⟩
end
mutual
theorem frG_F {A : Addr → Prop} {H : Hp} : ∀ (d : Dt) {v : V}, @Fr ziG A H d v → @Fr ziF A H d v
  | .non, _, r => r
  | .bl _, _, r => r
  | .int _, _, r => r
  | .str _, _, r => r
  | .val _, _, r => r
  | .dice, _, r => r
  | .ob _ _, _, r => r
  | .tup ds, _, ⟨a, xs, e, ha, hr, hk⟩ => ⟨a, xs, e, ha, hr, frsG_F ds hk⟩
  | .tpk ds, _, ⟨a, xs, o, e, ha, hr, ho, hk⟩ => ⟨a, xs, o, e, ha, hr, ho, frsG_F ds hk⟩
  | .lst ds, _, ⟨a, xs, e, ha, hr, hk⟩ => ⟨a, xs, e, ha, hr, frsG_F ds hk⟩
  | .dic _ ds, _, ⟨a, ws, e, ha, hr, ek, hk⟩ => ⟨a, ws, e, ha, hr, ek, frsG_F ds hk⟩
theorem frsG_F {A : Addr → Prop} {H : Hp} : ∀ (ds : List Dt) {vs : List V}, @FrAll ziG A H ds vs → @FrAll ziF A H ds vs
  | [], _, r => r
  | d :: ds, _, ⟨v, ws, e, h1, h2⟩ => ⟨v, ws, e, frG_F d h1, frsG_F ds h2⟩
end
theorem frsF_mono {A A' : Addr → Prop} {H H' : Hp} (h : ∀ a o, A a → H a = some o → A' a ∧ ∃ o', H' a = some o' ∧ spT o o') {ds : List Dt} {vs : List V} (r : @FrAll ziF A H ds vs) : @FrAll ziF A' H' ds vs :=
  frsG_F ds (@FrAll.monoN ziG A A' H H' h ds vs (frsF_G ds r))
theorem frsF_lock {A A' : Addr → Prop} {H H' : Hp} (h : ∀ a o, A a → H a = some o → A' a ∧ (H' a = some o ∨ ∃ ws, Rd H a (.dK ws) ∧ Rd H' a (.dK ws))) {ds : List Dt} {vs : List V} (r : @FrAll ziF A H ds vs) : @FrAll ziF A' H' ds vs := by
  have r1 := @FrAll.dom ziF A H ds vs r
  have r2 := @FrAll.lock ziF (fun a => A a ∧ H a ≠ none) H H' (fun a o ha ho => (h a o ha.1 ho).2) ds vs r1
  refine @FrAll.mono ziF _ A' H' H' (fun a o ha ho => ⟨?_, ho⟩) ds vs r2
  cases q : H a with
  | none => exact absurd q ha.2
  | some u => exact (h a u ha.1 q).1
/-- even: open; odd: closed, its cells hold what stands for the data -/
def obL (p : LamP) (n : Nat) (ds : List Dt) (A : Addr → Prop) (H : Hp) (v : V) : Prop :=
  LamAt p (n / 2) A H v ∧ ((n % 2 = 0 ∧ ds = []) ∨ (n % 2 = 1 ∧ ∃ ws, CellV p.cl p.B (p.lam (n / 2)).fr ws ∧ @FrAll ziF A H ds ws))
@[reducible] def ziP (p : LamP) : ZI where
  ch o := ∃ ps, o = .tbl ps
  ch_fix h z := by obtain ⟨ps, rfl⟩ := z; cases h
  ch_ext h := by obtain ⟨ps, h⟩ := h; cases h
  sp _ _ _ a b := spT a b
  sp_rfl _ := .inl rfl
  sp_trans h _ k := h.trans k
  sp_ch h := h.imp Eq.symm id
  Z H := Tabs p.T H
  ob := obL p
  ob_ref h := by obtain ⟨⟨f, _, _, e, _⟩, _⟩ := h; exact ⟨f, e⟩
  ob_mono h k := ⟨k.1.mono h, k.2.imp id fun ⟨e, ws, h1, h2⟩ => ⟨e, ws, h1, frsF_mono h h2⟩⟩
  ob_lock h k := ⟨k.1.lock h, k.2.imp id fun ⟨e, ws, h1, h2⟩ => ⟨e, ws, h1, frsF_lock h h2⟩⟩
class HasLam where
  p : LamP
abbrev lamP [HasLam] : LamP := HasLam.p
@[reducible] instance ziL [h : HasLam] : ZI := ziP h.p
end Lt
namespace Lt
open PySem PySem.Spec PyProof.Rows L2 Evl LamX
open SX (S)
/-- a walk that may look at all there is (the law's own) -/
def Tot (c : Ctx) : Prop := (∀ a, c.B a) ∧ ∀ b, c.Zd b ∨ c.H0 b = none
theorem tot_base {H : Hp} : Tot (baseCtx (fun _ => True) (fun _ => True) H) := ⟨fun _ => .inl trivial, fun b => by
  cases h : H b with
  | none => exact .inr h
  | some o => exact .inl ⟨by rw [h]; simp, trivial⟩⟩
section
variable [HasLam] {c : Ctx}
theorem rel_grow {s : PSt} {σ : L2.St} {F : List Pc} {H H1 : Hp} {cc : Addr} (ht : Tot c) (hr : Rel c s σ F H) (g : Grow lamP.T H H1 lamP.q cc) : Rel c s σ F H1 := by
  refine ⟨hr.1, hr.2.exN (B := c.B) (fun b o hb => ?_) (fun _ z => z) ?_⟩
  · by_cases q : ∃ ps, o = .tbl ps
    · obtain ⟨ps, rfl⟩ := q
      obtain ⟨qs, h1⟩ := g.tbl b ps hb
      exact ⟨_, h1, .inr ⟨⟨ps, rfl⟩, qs, rfl⟩⟩
    · exact ⟨o, g.keep b o hb (fun ps e => q ⟨ps, e⟩), .inl rfl⟩
  · obtain ⟨Hz, h1, h2⟩ := hr.2.iv
    have h1 : Tabs lamP.T Hz := h1
    refine ⟨fun b => if b = cc ∨ Hz b ≠ none then H1 b else none, ?_, fun b o hb => ?_⟩
    · show Tabs lamP.T _
      intro p hp
      obtain ⟨ps', e1, _, e3⟩ := h1 p hp
      obtain ⟨ps, qs, a1, a2, a3, a4⟩ := g.tab p hp
      rw [(h2 _ _ e1).1] at a1
      cases a1
      refine ⟨qs, (if_pos (.inr (by rw [e1]; simp))).trans a2, a3, fun pos cv hc => ?_⟩
      rcases a4 pos cv hc with z | ⟨z1, z2, _⟩
      · obtain ⟨c0, e4, e5⟩ := e3 pos cv z
        exact ⟨c0, e4, (if_pos (.inr (by rw [e5]; simp))).trans (g.keep _ _ (h2 _ _ e5).1 codeO_ne)⟩
      · exact ⟨cc, z1, (if_pos (.inl rfl)).trans (by rw [z2]; exact g.code)⟩
    · dsimp only at hb
      split at hb
      · rename_i q
        refine ⟨hb, ?_, ht.2 b⟩
        rcases q with q | q
        · subst q
          rw [g.code] at hb
          cases hb
          rfl
        · cases hz : Hz b with
          | none => exact absurd hz q
          | some o' =>
            obtain ⟨g1, g2, _⟩ := h2 b o' hz
            by_cases q : ∃ ps, o' = .tbl ps
            · obtain ⟨ps, rfl⟩ := q
              obtain ⟨qs, h3⟩ := g.tbl b ps g1
              rw [hb] at h3
              cases h3
              rfl
            · have h3 := g.keep b o' g1 fun ps e => q ⟨ps, e⟩
              rw [hb] at h3
              cases h3
              exact g2
      · cases hb
theorem ce_lam {i : Nat} {L : LamT} {q : Str} {cl : List (Str × Addr)} {T : List (Addr × Str)} (ht : Tot c) (e1 : lamP.lam i = L) (e2 : lamP.q = q) (e3 : lamP.cl = cl) (e4 : lamP.T = T) : CE c (tLam T L q cl) (pC (.ob (2 * i) [])) := fun F s σ H Q R hr hp k => by
  subst e1 e2 e3 e4
  refine ⟨?_, fun f cc dV H1 g nn nf hf dfl => k _ _ _ _ _ hp (.of_top hr.1 ((rel_grow ht hr g).2.fr ?_))⟩
  · obtain ⟨Hz, h1, h2⟩ := hr.2.iv
    exact Tabs.ext h1 fun b o hb => (h2 b o hb).1
  · have hr1 := (rel_grow ht hr g).2
    have nl : ∀ a o, H1 a = some o → ownO o = false → Al c (s.zip σ ++ F) a := fun a o ha n1 => ⟨ht.1 a, fun z => by
      obtain ⟨_, o2, z1, z2⟩ := owns_ob hr1 z
      rw [ha] at z1
      cases z1
      rw [n1] at z2
      cases z2⟩
    have e2 : 2 * i / 2 = i := by omega
    refine ⟨?_, .inl ⟨by omega, rfl⟩⟩
    rw [e2]
    refine ⟨f, cc, dV, rfl, nl f _ hf rfl, hf, nl cc _ g.code rfl, g.code, dfl, fun T eT => ?_⟩
    rcases dfl with ⟨_, h5⟩ | ⟨x, T', d1, d2, d3⟩
    · rw [h5] at eT; cases eT
    · rw [d2] at eT
      cases eT
      exact nl T _ d3 rfl
end
/-- the cells of the maker -/
structure CellsIn (p : LamP) : Prop where
  inj : ∀ x y c, p.cl.lookup x = some c → p.cl.lookup y = some c → x = y
  all : ∀ y c, p.cl.lookup y = some c → ∃ v, p.B.IsCell c v
def LamOk [HasLam] (P : Program) (w : World) (K : PySem.W.Frag) (mg : Str → Option Value) (k i : Nat) (pf : PFX) : Prop := ∀ (A : Around) (outer : List Env) (s : Shared) (H : Hp) (f c : Addr) (dV : Value) (ws : List V) (Q : VK) (E : XK), Room k A → Env0 P w K mg lamP.B A outer s H →
  H f = some (LamO f (lamP.lam i) lamP.q lamP.cl dV c) → H c = some (CodeO c lamP.q) → DflL H (lamP.lam i).ps dV → CellV lamP.cl lamP.B (lamP.lam i).fr ws → @spX ziF mg pf ws H Q E → codeAny (model P w) A (.call (.ref f) ⟨[], []⟩) (CR (L2.CX P w) outer P w H s Q E) s
theorem LamOk.mono [HasLam] {P : Program} {w : World} {K : PySem.W.Frag} {mg : Str → Option Value} {j k i : Nat} {pf : PFX} (h : LamOk P w K mg j i pf) (l : j ≤ k) : LamOk P w K mg k i pf := fun A outer s H f c dV ws Q E hr => h A outer s H f c dV ws Q E (hr.mono l)
abbrev nfL (L : LamT) (q : Str) (cl : List (Str × Addr)) (c : Addr) : NdefX.NF := ⟨"<lambda>", q, L.params, [], L.scope, cloFrom cl L.scope.names [], c⟩
def dflD (ps : List Str) : List Dt := ps.map fun _ => .int 0
def pfL (ps : List Str) (tp : XQ → PTE) : PFX := fun ds R X => tp X (pStart (dflD ps ++ ds) 0) fun b d _ => R b d
theorem CellV.length {cl : List (Str × Addr)} {B : Heap} : ∀ {fr : List Str} {ws : List V}, CellV cl B fr ws → ws.length = fr.length
  | [], _, h => by cases h; rfl
  | y :: fr, _, h => by
    obtain ⟨w, ws', rfl, _, h2⟩ := h
    rw [List.length_cons, List.length_cons, h2.length]
theorem CellV.get {cl : List (Str × Addr)} {B : Heap} : ∀ {fr : List Str} {ws : List V} {i : Nat} {y : Str}, CellV cl B fr ws → fr[i]? = some y → ∃ w c u, ws[i]? = some w ∧ cl.lookup y = some c ∧ B.IsCell c (some u) ∧ RelV w u
  | [], _, i, y, _, e => by simp at e
  | x :: fr, _, i, y, h, e => by
    obtain ⟨w, ws', rfl, ⟨c, u, h1, h2, h3⟩, h4⟩ := h
    cases i with
    | zero => simp at e; subst e; exact ⟨w, c, u, rfl, h1, h2, h3⟩
    | succ i => exact CellV.get (i := i) h4 (by simpa using e)
section
variable [HasLam] {P : Program} {w : World} {K : PySem.W.Frag} {mg : Str → Option Value} {k i : Nat} {L : LamT} {tp : XQ → PTE}
/-- how its parameters are bound -/
def BindL (L : LamT) : Prop := (L.ps = [] ∧ ∀ (q : Str) (cl : List (Str × Addr)) (doc pm cv ctv : Value), bindArgs (PySem.W.kdv_fn "<lambda>" q L.params (.expr L.body) L.scope cl .none doc pm cv ctv) ⟨[], []⟩ = pure []) ∨
  ∃ p, L.ps = [p] ∧ ∀ (q : Str) (cl : List (Str × Addr)) (T : Addr) (doc pm cv ctv : Value), ∃ kk, bindArgs (PySem.W.kdv_fn "<lambda>" q L.params (.expr L.body) L.scope cl (.ref T) doc pm cv ctv) ⟨[], []⟩ = seqItems? (.ref T) >>= kk ∧ ∀ u, kk (some #[u]) = pure [(p, u)]
theorem lamOk_of (eL : lamP.lam i = L) (hc : CellsIn lamP) (N : NdefX.NScope (L.ps ++ L.fr) L.ps L.fr L.scope) (hb : BindL L)
    (hbody : ∀ (A : Around) (outer : List Env) (s : Shared) (H : Hp) (f c : Addr) (E : XK), Room k (A.deeper (NdefX.envF (nfL L lamP.q lamP.cl c) f s.heap.objs.size)) →
      ∃ t, PE (NdefX.ncx (L2.CX P w) P w K mg lamP.B (L.ps ++ L.fr) (nfL L lamP.q lamP.cl c) f A outer s H E) L.body t ∧ ∀ (A0 Zd : Addr → Prop) (X : XQ), @LX ziF (@baseCtx A0 Zd H) mg X E → @CE ziF (baseCtx A0 Zd H) t (tp X)) : LamOk P w K mg (k + 1) i (pfL L.ps tp) := by
  subst eL
  intro A outer s H f c dV ws Q E hr e0 hf hco hd cv hsp
  obtain ⟨A0, Zd, ds, R, X, hfr, hiv, hp, kq, lx⟩ := hsp
  obtain ⟨od, sl, doc, pm, ctv, ho⟩ := lamO_at e0.hok hf
  have lim : s.heap.NoLimit := e0.mod.nolimit.keeps fun b o e => (e0.bs b o e).1
  have hfree : ∀ y ∈ (lamP.lam i).scope.names, y.2 = .free → ∃ c, lamP.cl.lookup y.1 = some c := fun y hy e => by
    obtain ⟨j, hj⟩ := List.mem_iff_getElem?.mp (N.free y hy e)
    obtain ⟨_, c0, _, _, h2, _⟩ := cv.get hj
    exact ⟨c0, h2⟩
  have cellB : ∀ {a : Addr} {v : Option Value}, lamP.B.IsCell a v → H a = none ∧ s.heap.IsCell a v := fun {a v} ⟨o, h1, h2⟩ => ⟨(e0.bs _ _ h1).2, o, (e0.bs _ _ h1).1, h2⟩
  have C : NdefX.CellsAt (nfL (lamP.lam i) lamP.q lamP.cl c).cl (lamP.lam i).fr (ws.map some) s.heap H := by
    refine ⟨by rw [List.length_map]; exact cv.length, fun y a e => ?_, fun x y a e1 e2 => hc.inj x y a (NdefX.clo_cm hfree e1) (NdefX.clo_cm hfree e2), fun j y e => ?_⟩
    · obtain ⟨v, hv⟩ := hc.all y a (NdefX.clo_cm hfree e)
      exact ⟨(cellB hv).1, v, (cellB hv).2⟩
    · obtain ⟨w0, c0, u, h1, h2, h3, h4⟩ := cv.get e
      refine ⟨c0, NdefX.clo_has hfree (PySem.mem_of_lookup (N.frk y (List.mem_of_getElem? e))) h2, fun v ev => ?_⟩
      rw [List.getElem?_map, h1] at ev
      cases ev
      exact ⟨u, h4, (cellB h3).2⟩
  obtain ⟨t, ht, hce⟩ := hbody A outer s H f c E (hr.deeper _)
  -- its binds
  have bd : ∃ (vs : List V) (us : List Value), vs.length = (lamP.lam i).ps.length ∧ Vals vs us ∧ @FrAll ziF A0 H (dflD (lamP.lam i).ps) vs ∧ BindsTo s (PySem.W.kdv_fn "<lambda>" lamP.q (lamP.lam i).params (.expr (lamP.lam i).body) (lamP.lam i).scope (cloFrom lamP.cl (lamP.lam i).scope.names []) dV doc pm (.ref c) ctv) ⟨[], []⟩ ((lamP.lam i).ps.zip us) := by
    rcases hb with ⟨b1, b2⟩ | ⟨p, b1, b2⟩
    · rcases hd with ⟨_, d2⟩ | ⟨p, T, d1, _⟩
      · subst d2
        exact ⟨[], [], by rw [b1]; rfl, .nil, by rw [b1]; exact rfl, BindsTo.of_eq (by rw [b1]; exact b2 _ _ _ _ _ _)⟩
      · rw [b1] at d1; cases d1
    · rcases hd with ⟨d1, _⟩ | ⟨p', T, d1, d2, d3⟩
      · rw [b1] at d1; cases d1
      · subst d2
        obtain ⟨kk, e1, e2⟩ := b2 lamP.q (cloFrom lamP.cl (lamP.lam i).scope.names []) T doc pm (.ref c) ctv
        obtain ⟨_, its, rv, o, g1, g2, n, g3⟩ := e0.hok T _ d3
        obtain ⟨u, rfl, ru⟩ := rv.one
        refine ⟨[.int 0], [u], by rw [b1]; rfl, rv, by rw [b1]; exact ⟨_, _, rfl, rfl, rfl⟩, BindsTo.of_defaults rfl g1 g3 e1 ?_⟩
        rw [b1]
        exact e2 u
  obtain ⟨vs, us, hl, rv, hfd, hbd⟩ := bd
  obtain ⟨⟨oc, vs0, t0, hoc, hdc, hvc⟩, _, _⟩ := e0.hok c _ hco
  refine PySem.W.kla_callFunE hr.depth ho rfl N.co N.gen rfl ⟨c, oc, vs0, t0, rfl, hoc, hdc, hvc⟩ (hbd _ _ _ _ ?_)
  refine wpAny_newFunctionEnv N.nocell (fun ⟨n, _⟩ hy => N.par n (List.of_mem_zip hy).1) (fun h₁ hns hsb => ⟨lim.fresh _ hsb, ?_⟩) N.kind
  show codeAny _ _ (.expr (lamP.lam i).body (NdefX.envF (nfL (lamP.lam i) lamP.q lamP.cl c) f s.heap.objs.size)) _ _
  have kp : ∀ b o, s.heap.get? b = some o → h₁.get? b = some o := fun b o e => hsb.extBut b o (Nat.ne_of_lt (Heap.lt_size e)) (Heap.get?_push_of_some _ e)
  have I : Inv (NdefX.ncx (L2.CX P w) P w K mg lamP.B ((lamP.lam i).ps ++ (lamP.lam i).fr) (nfL (lamP.lam i) lamP.q lamP.cl c) f A outer s H E) [] (NdefX.startF ((lamP.lam i).ps ++ (lamP.lam i).fr) vs (ws.map some)) H { s with heap := h₁, toks := s.toks + ((lamP.lam i).ps.zip us).length } :=
    NdefX.inv_startN N hr.hd e0 hl rv C hns kp
  have hq : t (NdefX.startF ((lamP.lam i).ps ++ (lamP.lam i).fr) vs (ws.map some)) H Q := by
    have es : NdefX.startF ((lamP.lam i).ps ++ (lamP.lam i).fr) vs (ws.map some) = (vs ++ ws).map some ++ List.replicate 0 none := by
      unfold NdefX.startF
      rw [List.length_append, List.length_map, cv.length, hl, show (lamP.lam i).ps.length + (lamP.lam i).fr.length - (lamP.lam i).ps.length - (lamP.lam i).fr.length = 0 by omega]
      simp
    rw [es]
    have hs := @start_rel ziF A0 Zd H (dflD (lamP.lam i).ps ++ ds) (vs ++ ws) 0 (@FrAll.append ziF A0 H _ _ _ _ hfd hfr) hiv
    exact hce A0 Zd X lx [] _ _ H Q _ hs hp fun b d s' v H' rd hl => kq b d v H' rd (@RelL.sub ziF _ _ _ _ hl.2 (List.sublist_append_right _ _))
  refine PySem.W.kla_codeExpr (wpAny_mono (ht.run [] _ _ H Q I hq) (fun v s' z => ?_) fun e s' z => z)
  obtain ⟨w', H', J, rw', q⟩ := z
  exact ⟨w', H', J.os, J.bare, J.base, J.hok, rw', q⟩
def tClo (j : Nat) (mg : Str → Option Value) (pfo : Nat → PFX) (E : L2.St → XK) : TE := fun σ H Q => ∃ (f c : Addr) (dV : Value) (n : Nat) (ws : List V), σ[j]? = some (some (.ref f)) ∧ H f = some (LamO f (lamP.lam n) lamP.q lamP.cl dV c) ∧ H c = some (CodeO c lamP.q) ∧ DflL H (lamP.lam n).ps dV ∧ CellV lamP.cl lamP.B (lamP.lam n).fr ws ∧ @spX ziF mg (pfo n) ws H Q (E σ)
theorem pe_clo {X : Cx} {pfo : Nat → PFX} {E : L2.St → XK} {x : Str} {j : Nat} {p1 p2 : Pos} (hB : X.base = lamP.B) (LO : ∀ n, LamOk X.prog X.w X.K X.mg k n (pfo n)) (hr : Room k X.A) (hx : ∀ σ, PassesAt (L2.CX X.prog X.w) X σ (E σ)) (hN : X.N[j]? = some x) (hv : Vis X.env.scope x)
    (hd : (x == ("__debug__" : Str)) = false := by decide) (hcd : (x == ("__classdict__" : Str)) = false := by decide) : PE X (.Call (.Name x p1) [] [] p2) (tClo j X.mg pfo E) := ⟨fun pins s σ H Q I h => by
  obtain ⟨f, c, dV, n, ws, h1, h2, h3, h4, h5, h6⟩ := h
  refine wpAny_Call_Name_kw (thn ((pe_var (pos := p1) hN hv hd hcd).run pins s σ H (fun v H1 => v = .ref f ∧ H1 = H) I ⟨.ref f, h1, rfl, rfl⟩) fun u s1 ⟨v, H1, I1, r1, e1, e2⟩ => ?_)
  subst e1
  rw [e2] at I1
  cases (show u = Value.ref f from r1)
  obtain ⟨od, sl, doc, pm, ctv, ho⟩ := lamO_at I1.hok h2
  refine PySem.W.callWith_F0 (first := []) ⟨_, od, _, sl, ho⟩ ?_
  have e0 := I1.env0
  rw [hB] at e0
  refine wpAny_call (codeAny_mono (LO n X.A X.stack s1 H f c dV ws Q (E σ) hr e0 h2 h3 h4 h5 h6) fun r s' hq => ?_)
  cases r with
  | error e => exact hx σ pins H s1 e s' I1 hq
  | ok fl => cases fl with
    | ret u => exact I1.after hq
    | next => exact False.elim hq
    | brk => exact False.elim hq
    | cont => exact False.elim hq⟩
end
end Lt
namespace Lt
open PySem PySem.Spec PyProof.Rows L2 Evl LamX
open SX (S)
/-- the text's exception classes, all below the one at T -/
structure ExTab (K : PySem.W.Frag) (mg : Str → Option Value) (ns ys : List Str) (T : Addr) : Prop where
  ex : ∀ x ∈ ns, ∃ C, mg x = some (.ref C) ∧ ExcC K C ∧ XfC K C ∧ PySem.W.exmOne K (.ref C) (.ref T) = some true ∧ PySem.W.kitOne K (.ref C) (.type "ValueError") = some true ∧ ∀ f ∈ (["place", "number", "why", "row"] : List Str), PySem.W.findIn K (.ref C) f = some none
  is : ∀ x ∈ ns, ∀ y ∈ ys, ∀ C D, mg x = some (.ref C) → mg y = some (.ref D) → PySem.W.kitOne K (.ref C) (.ref D) = some (decide (x = y))
def exTabB (K : PySem.W.Frag) (ns ys : List Str) (T : Str) : Bool :=
  (ns.all fun x => excB K (He.ga K x) && (xfB K (He.ga K x) && (decide (PySem.W.exmOne K (.ref (He.ga K x)) (.ref (He.ga K T)) = some true) && (decide (PySem.W.kitOne K (.ref (He.ga K x)) (.type "ValueError") = some true) && (["place", "number", "why", "row"] : List Str).all fun f => He.eqO (PySem.W.findIn K (.ref (He.ga K x)) f) (some none))))) &&
  ns.all fun x => ys.all fun y => decide (PySem.W.kitOne K (.ref (He.ga K x)) (.ref (He.ga K y)) = some (decide (x = y)))
theorem exTabB_ok {K : PySem.W.Frag} {mg : Str → Option Value} {ns ys : List Str} {T : Str} (h : exTabB K ns ys T = true) (hg : ∀ x ∈ ns ++ ys, mg x = some (.ref (He.ga K x))) : ExTab K mg ns ys (He.ga K T) := by
  unfold exTabB at h
  obtain ⟨h1, h2⟩ := bAnd h
  refine ⟨fun x hx => ?_, fun x hx y hy C D e1 e2 => ?_⟩
  · have a := List.all_eq_true.mp h1 x hx
    obtain ⟨a1, a⟩ := bAnd a
    obtain ⟨a2, a⟩ := bAnd a
    obtain ⟨a3, a⟩ := bAnd a
    obtain ⟨a4, a5⟩ := bAnd a
    exact ⟨_, hg x (List.mem_append_left _ hx), excB_ok a1, xfB_ok a2, of_decide_eq_true a3, of_decide_eq_true a4, fun f hf => He.eqO_ok (List.all_eq_true.mp a5 f hf)⟩
  · have a := of_decide_eq_true (List.all_eq_true.mp (List.all_eq_true.mp h2 x hx) y hy)
    rw [hg x (List.mem_append_left _ hx)] at e1
    rw [hg y (List.mem_append_right _ hy)] at e2
    cases e1; cases e2
    exact a
theorem ExTab.ve {K : PySem.W.Frag} {mg : Str → Option Value} {ns ys : List Str} {T : Addr} (h : ExTab K mg ns ys T) {x : Str} {D : Addr} (hx : x ∈ ns) (e : mg x = some (.ref D)) : PySem.W.kitOne K (.ref D) (.type "ValueError") = some true := by
  obtain ⟨C, g1, _, _, _, g2, _⟩ := h.ex x hx
  rw [g1] at e
  cases e
  exact g2
def tIsD (K : PySem.W.Frag) (D a : Addr) (d : Option Addr) (k : Nat) (v : V) : TE := tCB (fun xs H Q => (∀ dd, d = some dd → ∃ fs, H dd = some (.xd fs)) ∧ rIsE K D a xs H Q) (tCons (tVar k) (tCons (tC v) tNil))
@[reducible] def pIsX (k : Nat) (a : Addr) (b : Bool) : PTE := fun s Q => s[k]? = some (.fz (.val (.ref a))) ∧ Q false (.bl b) s
def DictX (c : Ctx) (d : Option Addr) (x : Xd) : Prop := (x.fs = [] ∧ d = none) ∨ ∃ dd, d = some dd ∧ c.H0 dd = some (.xd x.fs)
section
variable [ZI] {c : Ctx} {K : PySem.W.Frag} {D a : Addr} {d : Option Addr} {k : Nat} {x : Xd}
theorem DictX.at (h : DictX c d x) {L : List Pc} {H : Hp} (r : RelL c L H) : (x.fs = [] ∧ d = none) ∨ ∃ dd, d = some dd ∧ H dd = some (.xd x.fs) := h.imp id fun ⟨dd, e1, e2⟩ => ⟨dd, e1, by
  obtain ⟨o', h1, s⟩ := r.old _ _ e2
  rw [ZI.sp_fix rfl s] at h1
  exact h1⟩
theorem ce_isX {cv : Value} {v : V} {b : Bool} (hd : DictX c d x) (hv : ∀ u, RelV v u → u = cv) (hk : PySem.W.kitOne K (.ref D) cv = some b) : CE c (tIsD K D a d k v) (pIsX k a b) := fun F s σ H Q R hr ⟨hs, hp⟩ kk => by
  obtain ⟨w, e1, h1⟩ := hr.get hs
  have : w = .ref a := h1.top.ok _ (List.mem_cons_self ..)
  subst this
  refine ⟨_, e1, ⟨fun dd ed => ?_, v, cv, b, rfl, hv, hk, kk _ _ _ _ _ hp (.of_top hr.1 (hr.2.bl b))⟩⟩
  rcases hd.at hr.2 with ⟨_, z⟩ | ⟨dd', z1, z2⟩
  · rw [z] at ed; cases ed
  · rw [z1] at ed; cases ed
    exact ⟨_, z2⟩
theorem rel_ref {C : Addr} : ∀ u, RelV (.ref C) u → u = .ref C := fun u r => r
theorem rel_ty {n : String} : ∀ u, RelV (.ty n) u → u = .type n := fun u r => r
@[reducible] def pXf (k : Nat) (a : Addr) (f : Str) (x : Xd) : PTE := fun s Q => s[k]? = some (.fz (.val (.ref a))) ∧ ∃ v dv, x.fs.lookup f = some v ∧ fltD dv = some v ∧ Q false dv s
theorem flt_fr {A : Addr → Prop} {H : Hp} {dv : Dt} {v : V} (h : fltD dv = some v) : Fr A H dv v := by
  cases dv <;> cases h <;> rfl
theorem ce_xf {f : Str} (hd : DictX c d x) : CE c (tXf a (.ref D) d D f (tVar k)) (pXf k a f x) := fun F s σ H Q R hr ⟨hs, v, dv, h1, h2, hp⟩ kk => by
  obtain ⟨w, e1, g1⟩ := hr.get hs
  have : w = .ref a := g1.top.ok _ (List.mem_cons_self ..)
  subst this
  rcases hd.at hr.2 with ⟨z, _⟩ | ⟨dd, z1, z2⟩
  · rw [z] at h1; cases h1
  · exact ⟨_, e1, rfl, rfl, dd, x.fs, v, z1, z2, h1, kk _ _ _ _ _ hp (.of_top hr.1 (hr.2.fr (flt_fr h2)))⟩
end
/-- a suite whose class is known by its name -/
def tSuite (K : PySem.W.Frag) (ts : Addr → Addr → Option Addr → TS) : Addr → Value → Option Addr → TS := fun a cls d P σ H => ∃ D, cls = .ref D ∧ ExcC K D ∧ XfC K D ∧ (∀ f ∈ (["place", "number", "why", "row"] : List Str), PySem.W.findIn K (.ref D) f = some none) ∧ ts a D d P σ H
theorem pss_suite {X : Cx} {st : List Stmt} {K : PySem.W.Frag} {ts : Addr → Addr → Option Addr → TS} {a : Addr} {cls : Value} {d : Option Addr} (h : ∀ D, cls = .ref D → ExcC K D → XfC K D → (∀ f ∈ (["place", "number", "why", "row"] : List Str), PySem.W.findIn K (.ref D) f = some none) → PSs X st (ts a D d)) : PSs X st (tSuite K ts a cls d) :=
  ⟨fun pins s σ H P I ⟨D, e, h1, h2, h3, h4⟩ => (h D e h1 h2 h3).run pins s σ H P I h4⟩
section
variable [HasLam] {c : Ctx} {K : PySem.W.Frag} {mg : Str → Option Value} {pfo : Nat → PFX} {i j : Nat} {ns ys : List Str} {T : Addr} {Wout : WX} {ts : Addr → Addr → Option Addr → TS}
@[reducible] def pTryClo (j i : Nat) (ns : List Str) (pfo : Nat → PFX) (hand : Xd → Addr → PTS) : PTS := fun P s => ∃ n ds, s[j]? = some (.fz (.ob (2 * n + 1) ds)) ∧ pfo n ds (fun _ _ => P.nx s) fun x => x.cls ∈ ns ∧ ∀ a, hand x a ⟨fun _ => False, P.rt, fun _ => False, fun _ => False, fun _ _ => False⟩ ((List.replicate s.length Sl.un).set i (.fz (.val (.ref a))))
theorem ob_clo {A : Addr → Prop} {H : Hp} {n : Nat} {ds : List Dt} {v : V} (h : Fr A H (.ob (2 * n + 1) ds) v) : LamAt lamP n A H v ∧ ∃ ws, CellV lamP.cl lamP.B (lamP.lam n).fr ws ∧ @FrAll ziF A H ds ws := by
  obtain ⟨h1, h2⟩ := (show obL lamP (2 * n + 1) ds A H v from h)
  rw [show (2 * n + 1) / 2 = n by omega] at h1 h2
  refine ⟨h1, ?_⟩
  rcases h2 with ⟨z, _⟩ | ⟨_, z⟩
  · omega
  · exact z
theorem ivF2 {c : Ctx} {H : Hp} : @Iv ziF c H := ⟨fun _ => none, trivial, fun _ _ z => nomatch z⟩
theorem relF_L {L L' : List Pc} {H H' : Hp} {A Zd : Addr → Prop} (h : RelL c L H) (k : @RelL ziF (@baseCtx A Zd H) L' H') : RelL c L H' := h.ex fun b o hb => by
  obtain ⟨o', h1, h2⟩ := @RelL.old ziF _ _ _ k b o hb
  rw [← (show o = o' from h2)] at h1
  exact h1
theorem rel_un {H : Hp} (h : RelL c [] H) : ∀ σ : L2.St, RelL c ((List.replicate σ.length Sl.un).zip σ) H
  | [] => h
  | a :: σ => by
    show RelL c ((Sl.un, a) :: (List.replicate σ.length Sl.un).zip σ) H
    exact (rel_un h σ).un
theorem cs_try {hand : Xd → Addr → PTS} (ET : ExTab K mg ns ys T) (hh : ∀ (x : Xd) (a D : Addr) (d : Option Addr) (c' : Ctx), x.cls ∈ ns → mg x.cls = some (.ref D) → DictX c' d x → CS c' (ts a D d) (hand x a)) :
    CS c (fun D σ H => (fun W => tDrop (tClo j mg pfo (WE W))) (wAs K (.ref T) i (tSuite K ts) Wout D) D σ H) (pTryClo j i ns pfo hand) := fun F s σ H D P hr ⟨n, ds, hs, hp⟩ lk => by
  obtain ⟨v, e1, h1⟩ := hr.get hs
  obtain ⟨⟨f, cc, dV, rfl, f1, f2, f3, f4, f5, f6⟩, ws, w1, w2⟩ := ob_clo (h1.top.ok _ (List.mem_cons_self ..))
  refine ⟨f, cc, dV, n, ws, e1, f2, f4, f5, w1, _, fun _ => True, ds, _, _, w2, ivF2, hp, fun b d v H' hnx hl => ?_, fun x cls d H' ⟨hx, hd⟩ hl r => ?_⟩
  · exact lk.nx s σ H' hnx ⟨hr.1, relF_L hr.2 hl⟩
  · obtain ⟨C, g1, g2, g3, g4, g5, g6⟩ := ET.ex _ hx
    obtain ⟨r1, r2⟩ := r
    rw [g1] at r1
    cases r1
    refine ⟨true, g4, fun _ a na => ?_, fun z => by cases z⟩
    have hr' : Rel c s σ F H' := ⟨hr.1, relF_L hr.2 hl⟩
    refine ⟨C, rfl, g2, g3, g6, ?_⟩
    have hc := hh x a C d (subCtx c (s.zip σ ++ F) H') hx g1 r2
    refine hc [] ((List.replicate s.length Sl.un).set i (.fz (.val (.ref a)))) (σ.set i (some (.ref a))) H' _ _ ?_ (hd a) ⟨fun _ _ _ z => z.elim, fun b dd v H'' z hl'' => ?_, fun _ _ _ z => z.elim, fun _ _ _ z => z.elim, fun _ _ _ _ _ z => z.elim⟩
    · refine Rel.set (F := []) ?_ i
      refine .of_top (by rw [List.length_replicate]; exact hr.1) ?_
      have h0 : RelL (subCtx c (s.zip σ ++ F) H') [] H' := RelL.start _ (Iv.sub hr'.2)
      have h2 := rel_un h0 σ
      rw [← hr.1] at h2
      exact (by simpa using h2 : RelL (subCtx c (s.zip σ ++ F) H') ((List.replicate s.length Sl.un).zip σ ++ []) H').fr (show Fr _ _ (.val (.ref a)) (.ref a) from rfl)
    · exact lk.rt b dd v H'' z ((hr'.2.call hl'').sub (List.cons_sublist_cons.mpr (List.nil_sublist _)))
end
/-- the reading of try: x() except B as n: suite -/
def tTryClo [HasLam] (K : PySem.W.Frag) (mg : Str → Option Value) (pfo : Nat → PFX) (j i : Nat) (T : Addr) (ts : Addr → Addr → Option Addr → TS) : TS := fun D σ H => (fun W => tDrop (tClo j mg pfo (WE W))) (wAs K (.ref T) i (tSuite K ts) (fun _ _ _ _ => False) D) D σ H
theorem ps_tryClo [HasLam] {X : Cx} {k i j : Nat} {pfo : Nat → PFX} {T : Addr} {x B n : Str} {b₀ : Stmt} {suite : List Stmt} {ts : Addr → Addr → Option Addr → TS} {p1 p2 p3 np pos' pos : Pos}
    (hs : X.stack = X.env :: X.outer) (hf : X.env.frame = some X.env.locals) (hN : X.N.Nodup) (hi : X.N[i]? = some n) (hln : X.env.kindOf n = some .local) (hc : Names X B (.ref T)) (hB : X.base = lamP.B)
    (LO : ∀ n, LamOk X.prog X.w X.K X.mg k n (pfo n)) (hr : Room k X.A) (hj : X.N[j]? = some x) (hv : Vis X.env.scope x) (hd : (x == ("__debug__" : Str)) = false) (hcd : (x == ("__classdict__" : Str)) = false)
    (hsu : ∀ (a : Addr) (oe : Obj) (D : Addr) (d : Option Addr) (pn : List (Addr × Obj)), Zc (.ref D) d oe → (∃ vs, oe.data = .fields vs) → ExcC X.K D → XfC X.K D → (∀ f ∈ (["place", "number", "why", "row"] : List Str), PySem.W.findIn X.K (.ref D) f = some none) → PSs (X.suite a ((a, oe) :: pn)) (b₀ :: suite) (ts a D d)) :
    PS X (.Try [.Expr (.Call (.Name x p1) [] [] p2) p3] [.ExceptHandler (some (.Name B np)) (some n) (b₀ :: suite) pos'] [] [] pos) (tTryClo X.K X.mg pfo j i T ts) :=
  ps_try_as hs hf hN hi hln hc LamX.takes0 (tb := fun W => tDrop (tClo j X.mg pfo (WE W))) (fun W pn xe tk _ => pss_one (ps_expr (e := .Call (.Name x p1) [] [] p2) (pe_clo (X := X.tr pn xe) hB LO hr (fun σ => passAt tk σ) hj hv hd hcd)))
    fun a oe cls d pn hz hf' => pss_suite fun D eD cE cX no => hsu a oe D d pn (eD ▸ hz) hf' cE cX no
theorem cs_tryClo [HasLam] {c : Ctx} {K : PySem.W.Frag} {mg : Str → Option Value} {pfo : Nat → PFX} {i j : Nat} {ns ys : List Str} {T : Addr} {ts : Addr → Addr → Option Addr → TS} {hand : Xd → Addr → PTS} (ET : ExTab K mg ns ys T)
    (hh : ∀ (x : Xd) (a D : Addr) (d : Option Addr) (c' : Ctx), x.cls ∈ ns → mg x.cls = some (.ref D) → DictX c' d x → CS c' (ts a D d) (hand x a)) : CS c (tTryClo K mg pfo j i T ts) (pTryClo j i ns pfo hand) := cs_try ET hh
def rCntB (K : PySem.W.Frag) : V → List V → Hp → VK → Prop := fun x xs H Q => ∃ (p : Addr) (ys : List Bool) (z : Bool), x = .ref p ∧ xs = [.bl z] ∧ SqL K H p (ys.map V.bl) ∧ Q (.int (ys.count z : Nat)) H
theorem mt_cntB {X : Cx} : MtR X "list.count" (rCntB X.K) := by
  intro pins s σ H x xs v us Q I rx rxs h
  obtain ⟨p, ys, z, rfl, rfl, hs, q⟩ := h
  cases rx
  obtain ⟨u, rfl, ru⟩ := rxs.one
  cases (show u = Value.bool z from ru)
  obtain ⟨its, rv, ⟨⟨cls, dd, dt, sl⟩, n, ho, hc, hdn, hd⟩, hlen⟩ := I.list hs
  simp only at hc hd
  subst hc hd
  have fl : (ys.map V.bl).all flatV = true := by rw [List.all_map]; exact List.all_eq_true.mpr fun _ _ => rfl
  have ec : ∀ {ys : List Bool} {us : List Value}, Vals (ys.map V.bl) us → us.countP (eqU (.bl z)) = ys.count z := by
    intro ys
    induction ys with
    | nil => intro us r; cases r; rfl
    | cons y ys ih =>
      intro us r
      cases r with
      | cons h1 h2 =>
        cases h1
        rw [List.countP_cons, List.count_cons, ih h2]
        cases y <;> cases z <;> rfl
  refine call_meets PySem.F.slot_list_count ⟨_, ho, rfl⟩ PySem.F.entry_list_count (PySem.F.args_list_count_2 _ _)
    (SeqAt.list_countAt p its.toArray n dd sl (.bool z) (eqU (.bl z))) ⟨ho, fun w hw => mem_eqAt (x := .bl z) rfl rfl rv fl w (by simpa using hw), ?_⟩
  refine ⟨.int (ys.count z : Nat), H, I.tok _, ⟨s.toks, ?_⟩, q⟩
  show Value.int ((its.toArray.toList.countP (eqU (.bl z)) : Nat) : Int) s.toks = _
  exact congrArg (fun z : Nat => Value.int (z : Int) s.toks) (ec rv)
section
variable [ZI]
def zCntB (x y : Dt) (R : DQ) : Prop := ∃ (bs : List Bool) (z : Bool), x = .lst (bs.map .bl) ∧ y = .bl z ∧ R false (.int (bs.count z : Nat))
theorem z_cntB {K : PySem.W.Frag} : OpZ (fun x y H Q => rCntB K x [y] H Q) zCntB := by
  intro c L H x y dx dy Q R h wx wy hr k
  obtain ⟨bs, z, rfl, rfl, hr⟩ := hr
  obtain ⟨p, xs, rfl, g1, g2⟩ := wx.lst h
  rw [FrAll.bls_inv g2] at g1
  obtain rfl := wy.scal_bl h
  exact ⟨p, bs, z, rfl, rfl, SqL.of g1, k _ _ _ _ hr (h.int _)⟩
def zIdxB (x y : Dt) (R : DQ) : Prop := ∃ (bs : List Bool) (z : Bool) (j : Nat), x = .lst (bs.map .bl) ∧ y = .bl z ∧ bs[j]? = some z ∧ (∀ m, m < j → bs[m]? ≠ some z) ∧ R false (.int (j : Int))
theorem z_idxB {K : PySem.W.Frag} : OpZ (fun x y H Q => rIndex K x [y] H Q) zIdxB := by
  intro c L H x y dx dy Q R h wx wy hr k
  obtain ⟨bs, z, j, rfl, rfl, h1, h2, hr⟩ := hr
  obtain ⟨p, xs, rfl, g1, g2⟩ := wx.lst h
  rw [FrAll.bls_inv g2] at g1
  obtain rfl := wy.scal_bl h
  have eb : ∀ a b : Bool, eqV (.bl a) (.bl b) = decide (a = b) := fun a b => by cases a <;> cases b <;> rfl
  refine ⟨p, _, _, j, .bl z, rfl, rfl, SqL.of g1, rfl, ?_, by rw [List.getElem?_map, h1]; rfl, by rw [eb]; simp, fun m z' hm hz => ?_, k _ _ _ _ hr (h.int _)⟩
  · rw [List.all_map, List.all_eq_true]
    intro q _
    rfl
  · rw [List.getElem?_map] at hz
    cases hq : bs[m]? with
    | none => rw [hq] at hz; cases hz
    | some w =>
      rw [hq] at hz
      cases hz
      rw [eb]
      exact decide_eq_false fun e => h2 m hm (by rw [hq, e])
end
theorem mt_cntBK {X : Cx} {K : PySem.W.Frag} (hK : X.K = K) : MtR X "list.count" (rCntB K) := hK ▸ mt_cntB
end Lt
namespace Lt
open PySem PySem.Spec PyProof.Rows L2 Evl LamX
open SX (S)
mutual
theorem frX (I1 I2 : ZI) {A : Addr → Prop} {H : Hp} : ∀ (d : Dt) {v : V}, plainD d = true → @Fr I1 A H d v → @Fr I2 A H d v
  | .non, _, _, r => r
  | .bl _, _, _, r => r
  | .int _, _, _, r => r
  | .str _, _, _, r => r
  | .val _, _, _, r => r
  | .dice, _, _, r => r
  | .ob _ _, _, p, _ => nomatch p
  | .tup ds, _, p, ⟨a, xs, e, ha, hr, hk⟩ => ⟨a, xs, e, ha, hr, frsX I1 I2 ds p hk⟩
  | .tpk ds, _, p, ⟨a, xs, o, e, ha, hr, ho, hk⟩ => ⟨a, xs, o, e, ha, hr, ho, frsX I1 I2 ds p hk⟩
  | .lst ds, _, p, ⟨a, xs, e, ha, hr, hk⟩ => ⟨a, xs, e, ha, hr, frsX I1 I2 ds p hk⟩
  | .dic _ ds, _, p, ⟨a, ws, e, ha, hr, ek, hk⟩ => ⟨a, ws, e, ha, hr, ek, frsX I1 I2 ds p hk⟩
theorem frsX (I1 I2 : ZI) {A : Addr → Prop} {H : Hp} : ∀ (ds : List Dt) {vs : List V}, plainDs ds = true → @FrAll I1 A H ds vs → @FrAll I2 A H ds vs
  | [], _, _, r => r
  | d :: ds, _, p, ⟨v, ws, e, h1, h2⟩ => by
    unfold plainDs at p
    rw [Bool.and_eq_true] at p
    exact ⟨v, ws, e, frX I1 I2 d p.1 h1, frsX I1 I2 ds p.2 h2⟩
end
theorem atX (I1 I2 : ZI) {A : Addr → Prop} {H : Hp} {d : Dt} {p : Addr} (hp : plainD d = true) (h : @At I1 A H d p) : @At I2 A H d p := by
  cases d <;> try exact False.elim h
  · obtain ⟨xs, h1, h2⟩ := h
    exact ⟨xs, h1, frsX I1 I2 _ hp h2⟩
  · obtain ⟨ws, h1, h2, h3⟩ := h
    exact ⟨ws, h1, h2, frsX I1 I2 _ hp h3⟩
theorem pcX (I1 I2 : ZI) {c : Ctx} {A : Addr → Prop} {H : Hp} {b : Bool} {d : Dt} {v : V} (hp : plainD d = true) (h : @PcOk I1 c A H (mkS b d, some v)) : @PcOk I2 c A H (mkS b d, some v) := by
  cases b with
  | false => exact frX I1 I2 d hp h
  | true =>
    cases v <;> try exact False.elim h
    exact ⟨h.1, atX I1 I2 hp h.2⟩
/-- the lambdas with what their cells hold at B -/
abbrev LamP.at (p : LamP) (B : Heap) : LamP := { p with B := B }
/-- the reading of such a call -/
def tCallH (p : LamP) (N : List Str) (sc : Scope) (sp : Heap → Sp) (t : TA) : TE := fun σ H Q => t σ H fun vs H1 => ∀ B : Heap, CellsIn (p.at B) →
  (∀ (j : Nat) (y : Str) (v : V), N[j]? = some y → sc.names.lookup y = some .cell → σ[j]? = some (some v) → ∃ c u, p.cl.lookup y = some c ∧ B.IsCell c (some u) ∧ RelV v u) → sp B vs H1 Q E0
section
variable {X : Cx} {p : LamP} {k : Nat} {f : Addr} {fd : FuncData} {ps : List Str} {sp : Heap → Sp} {x : Str} {e : Expr} {es : List Expr} {t : TA} {p0 pos : Pos}
theorem pe_callH (hp : p.cl = X.env.cells) (F : ∀ B, CellsIn (p.at B) → FnOk X.prog X.w X.K X.mg B CX0 k f fd ps (sp B)) (hr : Room k X.A) (hg : Gl X x) (hm : X.mg x = some (.ref f)) (hk : PySem.W.keepIn X.K (.ref f) = true) (hb : Binds X.K fd ps [])
    (hab : ∀ y c, X.env.cells.lookup y = some c → X.s_0.heap.objs.size ≤ c) (ha : PA X (e :: es) t)
    (hdb : (x == ("__debug__" : Str)) = false := by decide) (he : starEach (e :: es) X.env = (false, eval e X.env) :: starEach es X.env := by rfl) (hpl : (backTo pos (starEach es X.env)).any (·.1) = false := by rfl) :
    PE X (.Call (.Name x p0) (e :: es) [] pos) (tCallH p X.N X.env.scope sp t) := ⟨fun pins s σ H Q I h => by
  refine wpAny_Call_Name_kw (ld_glob I hg hm ?_ hdb)
  refine PySem.W.callWith_K (h₀ := X.base) I.ok.mod.kin hk (thn (ha.run pos pins s σ H _ I h) fun us s1 ⟨vs, H1, I1, r, q⟩ => ⟨I1.kIn, ?_⟩) he hpl
  show wpAny _ _ (call (.ref f) us) _ _ _
  -- the ground with the cells
  obtain ⟨l, hl⟩ : ∃ l : List Addr, l = (List.range s1.heap.objs.size).filter fun b => !((X.base.get? b).isSome || decide (b ∈ X.env.cells.filterMap fun q => X.env.cells.lookup q.1)) := ⟨_, rfl⟩
  obtain ⟨B, hB⟩ : ∃ B, B = PySem.W.hideAll s1.heap l := ⟨_, rfl⟩
  have kB : ∀ b o, s1.heap.get? b = some o → ((X.base.get? b).isSome = true ∨ b ∈ (X.env.cells.filterMap fun q => X.env.cells.lookup q.1)) → B.get? b = some o := fun b o e1 e2 => by
    rw [hB]
    refine PySem.W.hideAll_get _ e1 fun hm => ?_
    rw [hl] at hm
    have z := (List.mem_filter.mp hm).2
    rcases e2 with e2 | e2 <;> simp [e2] at z
  have oB : ∀ b o, B.get? b = some o → s1.heap.get? b = some o ∧ ((X.base.get? b).isSome = true ∨ b ∈ (X.env.cells.filterMap fun q => X.env.cells.lookup q.1)) := fun b o e1 => by
    rw [hB] at e1
    have e2 := PySem.W.of_hideAll _ e1
    refine ⟨e2, ?_⟩
    refine Classical.byContradiction fun z => ?_
    have hm : b ∈ l := by
      rw [hl]
      refine List.mem_filter.mpr ⟨List.mem_range.mpr (Heap.lt_size e2), ?_⟩
      simp only [not_or] at z
      simp [z.1, z.2]
    rw [PySem.W.hideAll_none _ hm] at e1
    cases e1
  have bB : ∀ b o, X.base.get? b = some o → B.get? b = some o := fun b o e1 => kB b o (I1.bk b o e1) (.inl (by rw [e1]; rfl))
  have mem_c : ∀ {y c}, X.env.cells.lookup y = some c → c ∈ X.env.cells.filterMap fun q => X.env.cells.lookup q.1 := fun {y c} e1 => List.mem_filterMap.mpr ⟨(y, c), PySem.mem_of_lookup e1, e1⟩
  have e0 := I1.env0
  have cell : ∀ {c v}, (c ∈ X.env.cells.filterMap fun q => X.env.cells.lookup q.1) → s1.heap.IsCell c v → B.IsCell c v := fun {c v} hc ⟨o, h1, h2⟩ => ⟨o, kB c o h1 (.inr hc), h2⟩
  have hnd : ∀ c ∈ (X.env.cells.filterMap fun q => X.env.cells.lookup q.1), ∃ y, X.env.cells.lookup y = some c := fun c hc => by
    obtain ⟨q, _, e1⟩ := List.mem_filterMap.mp hc
    exact ⟨q.1, e1⟩
  · have eB : Env0 X.prog X.w X.K X.mg B X.A X.stack s1 H1 := by
      refine ⟨e0.frames, ⟨e0.mod.kin.keeps bB, e0.mod.glob.keeps bB, ?_, ?_⟩, fun b o e1 => ?_, by rw [hB, PySem.W.hideAll_size]; exact Nat.le_refl _, funFrames_none e0.funs fun L hL => ?_, e0.frf, e0.hok, e0.bare⟩
      · obtain ⟨mb, h1, h2⟩ := e0.mod.blt
        exact ⟨mb, h1.keeps bB, h2⟩
      · exact e0.mod.nolimit.keeps bB
      · obtain ⟨e2, e3⟩ := oB b o e1
        refine ⟨e2, ?_⟩
        rcases e3 with e3 | e3
        · obtain ⟨o', e4⟩ := Option.isSome_iff_exists.mp e3
          exact (I1.bs b o' e4).2
        · obtain ⟨y, e4⟩ := hnd b e3
          exact I1.freeC y b e4
      · cases e1 : B.get? L with
        | none => rfl
        | some o =>
          exfalso
          obtain ⟨e2, e3⟩ := oB L o e1
          rcases e3 with e3 | e3
          · obtain ⟨o', e4⟩ := Option.isSome_iff_exists.mp e3
            have z := (e0.funs.mem hL).1
            rw [e4] at z; cases z
          · obtain ⟨y, e4⟩ := hnd L e3
            rcases List.mem_cons.mp (I1.stkSub L hL) with z | z
            · exact I1.cne y L e4 z
            · obtain ⟨_, o2, e5, _⟩ := I1.ok.funs.mem z
              exact absurd (Nat.lt_of_lt_of_le (Heap.lt_size e5) (hab y L e4)) (Nat.lt_irrefl _)
    have hc : CellsIn (p.at B) := by
      refine ⟨fun a b c e1 e2 => ?_, fun y c e1 => ?_⟩
      · have e1 : p.cl.lookup a = some c := e1
        have e2 : p.cl.lookup b = some c := e2
        rw [hp] at e1 e2
        exact I1.ok.inj a b c e1 e2
      · have e1 : p.cl.lookup y = some c := e1
        rw [hp] at e1
        obtain ⟨v, hv⟩ := I1.cell y c e1
        exact ⟨v, cell (mem_c e1) hv⟩
    have hq := q B hc fun j y v e1 e2 e3 => by
      obtain ⟨m, _, hlk⟩ := I1.loc
      obtain ⟨u, ru, hL⟩ := hlk j y v e1 e3 (.inr (.inl e2))
      rcases hL with ⟨z, _⟩ | ⟨_, c, e4, e5⟩
      · have z' : X.env.scope.names.lookup y = some .local := z
        rw [e2] at z'; cases z'
      · exact ⟨c, u, by rw [hp]; exact e4, cell (mem_c e4) e5, ru⟩
    have Fk := F B hc
    have hl2 : us.length = ps.length := by rw [← r.length]; exact Fk.len _ _ _ _ hq
    have b := hb s1 us I1.kIn (by rw [List.append_nil]; exact hl2)
    rw [List.append_nil] at b
    refine wpAny_call (codeAny_mono (Fk.run X.A X.stack s1 H1 ⟨us, []⟩ us vs Q E0 hr eB b r hq) fun r s' hq => ?_)
    cases r with
    | error e => exact hq.elim
    | ok fl => cases fl with
      | ret u => exact I1.after hq
      | next => exact False.elim hq
      | brk => exact False.elim hq
      | cont => exact False.elim hq
  done⟩
end
/-- an object as data that stay -/
def obDt (o : ObD) : Dt := .ob o.C (.tup (o.ns.map .str) :: o.ts.map (·.2))
def slD : Option Sl → Dt
  | some (.fz d) => d
  | some (.cl C) => match C.od with
    | some o => obDt o
    | none => .non
  | _ => .non
def capD (s : PSt) (js : List Nat) : List Dt := js.map fun j => slD s[j]?
def closeD1 (caps : Nat → List Nat) (s : PSt) : Dt → Dt
  | .ob n [] => .ob (n + 1) (capD s (caps (n / 2)))
  | d => d
def closeD (caps : Nat → List Nat) (s : PSt) : Dt → Dt
  | .lst ds => .lst (ds.map (closeD1 caps s))
  | d => closeD1 caps s d
def okJ (s : PSt) (j : Nat) : Bool := match s[j]? with
  | some (.fz d) => plainD d
  | some (.cl C) => C.od.isSome
  | _ => false
/-- data without lists, dicts, objects -/
def noLds : List Dt → Bool
  | [] => true
  | .non :: ds => noLds ds
  | .bl _ :: ds => noLds ds
  | .int _ :: ds => noLds ds
  | .str _ :: ds => noLds ds
  | .tup [] :: ds => noLds ds
  | .tup [.int _, .str _] :: ds => noLds ds
  | _ => false
/-- what a def that is handed lambdas may tell -/
def noLd : Dt → Bool
  | .non => true
  | .bl _ => true
  | .int _ => true
  | .str _ => true
  | .tup ds => noLds ds
  | _ => false
theorem noLds_fr [ZI] {A A' : Addr → Prop} {H : Hp} (k : ∀ a u, A a → H a = some u → tupO u = true → A' a) : ∀ {ds : List Dt} {vs : List V}, noLds ds = true → FrAll A H ds vs → FrAll A' H ds vs
  | [], _, _, h => h
  | .non :: ds, _, p, ⟨v, ws, e, h1, h2⟩ => ⟨v, ws, e, h1, noLds_fr k (ds := ds) p h2⟩
  | .bl _ :: ds, _, p, ⟨v, ws, e, h1, h2⟩ => ⟨v, ws, e, h1, noLds_fr k (ds := ds) p h2⟩
  | .int _ :: ds, _, p, ⟨v, ws, e, h1, h2⟩ => ⟨v, ws, e, h1, noLds_fr k (ds := ds) p h2⟩
  | .str _ :: ds, _, p, ⟨v, ws, e, h1, h2⟩ => ⟨v, ws, e, h1, noLds_fr k (ds := ds) p h2⟩
  | .tup [] :: ds, _, p, ⟨v, ws, e, h1, h2⟩ => by
    obtain ⟨a, xs, e1, ha, hr, hk⟩ := h1
    exact ⟨v, ws, e, ⟨a, xs, e1, hr.elim (fun z => k a _ ha z rfl) (fun ⟨o, z⟩ => k a _ ha z rfl), hr, hk⟩, noLds_fr k (ds := ds) p h2⟩
  | .tup [.int i, .str l] :: ds, _, p, ⟨v, ws, e, h1, h2⟩ => by
    obtain ⟨a, xs, e1, ha, hr, hk⟩ := h1
    exact ⟨v, ws, e, ⟨a, xs, e1, hr.elim (fun z => k a _ ha z rfl) (fun ⟨o, z⟩ => k a _ ha z rfl), hr, hk⟩, noLds_fr k (ds := ds) p h2⟩
theorem noLd_fr [ZI] {A A' : Addr → Prop} {H : Hp} (k : ∀ a u, A a → H a = some u → tupO u = true → A' a) {d : Dt} {v : V} (p : noLd d = true) (h : Fr A H d v) : Fr A' H d v := by
  cases d <;> first | exact h | (cases p; done) | skip
  obtain ⟨a, xs, e1, ha, hr, hk⟩ := h
  exact ⟨a, xs, e1, hr.elim (fun z => k a _ ha z rfl) (fun ⟨o, z⟩ => k a _ ha z rfl), hr, noLds_fr k p hk⟩
theorem noLds_plain : ∀ {ds : List Dt}, noLds ds = true → plainDs ds = true
  | [], _ => rfl
  | .non :: ds, p => by show (true && plainDs ds) = true; rw [noLds_plain (ds := ds) p]; rfl
  | .bl _ :: ds, p => by show (true && plainDs ds) = true; rw [noLds_plain (ds := ds) p]; rfl
  | .int _ :: ds, p => by show (true && plainDs ds) = true; rw [noLds_plain (ds := ds) p]; rfl
  | .str _ :: ds, p => by show (true && plainDs ds) = true; rw [noLds_plain (ds := ds) p]; rfl
  | .tup [] :: ds, p => by show (true && plainDs ds) = true; rw [noLds_plain (ds := ds) p]; rfl
  | .tup [.int i, .str l] :: ds, p => by show (true && plainDs ds) = true; rw [noLds_plain (ds := ds) p]; rfl
theorem noLd_plain {d : Dt} (p : noLd d = true) : plainD d = true := by
  cases d <;> first | rfl | (cases p; done) | skip
  exact noLds_plain p
def okD1 (caps : Nat → List Nat) (s : PSt) : Dt → Bool
  | .ob n [] => n % 2 == 0 && (caps (n / 2)).all (okJ s)
  | d => plainD d
def okDl (caps : Nat → List Nat) (s : PSt) : Dt → Bool
  | .lst ds => ds.all (okD1 caps s)
  | d => okD1 caps s d
@[reducible] def pCallH (caps : Nat → List Nat) (pf : PF) (pa : PTA) : PTE := fun s Q => pa s fun ds s' => ds.all (okDl caps s') = true ∧ pf (ds.map (closeD caps s')) fun b d => noLd d = true ∧ Q b d s'
theorem plainD_ok1 {caps : Nat → List Nat} {s : PSt} {d : Dt} (h : plainD d = true) : okD1 caps s d = true ∧ closeD1 caps s d = d := by
  cases d <;> first | exact ⟨h, rfl⟩ | cases h
section
variable [hl : HasLam] {c : Ctx} {caps : Nat → List Nat} {N : List Str} {sc : Scope} {t : TA} {pa : PTA} {pf : PF}
/-- the names that a lambda captures: the law's cells -/
def CapsOk (p : LamP) (caps : Nat → List Nat) (N : List Str) (sc : Scope) : Prop := ∀ n, (caps n).map (fun j => N[j]?) = (p.lam n).fr.map some ∧ ∀ y ∈ (p.lam n).fr, sc.names.lookup y = some .cell
theorem relP {p : LamP} {B : Heap} {c : Ctx} {H : Hp} {b : Bool} {d : Dt} {v : V} (hp : plainD d = true) (h : @RelL (ziP (p.at B)) c [(mkS b d, some v)] H) : @RelL (ziP p) c [(mkS b d, some v)] H :=
  @RelL.mk (ziP p) c _ H (@RelL.nd (ziP (p.at B)) _ _ _ h) (fun x hx => by
    have hk := @RelL.ok (ziP (p.at B)) _ _ _ h x hx
    rw [List.mem_singleton] at hx
    subst hx
    exact pcX (ziP (p.at B)) (ziP p) hp hk) (@RelL.old (ziP (p.at B)) _ _ _ h) (@RelL.iv (ziP (p.at B)) _ _ _ h)
theorem AtS.frE {A B : Addr → Prop} {H : Hp} {d : Dt} {q : Addr} (h : AtS A H d q) (k : ∀ a, A a → B a) (hq : B q) : @Fr ziE B H d (.ref q) := by
  cases d <;> try exact h.elim
  · obtain ⟨xs, h1, h2⟩ := h
    exact ⟨q, xs, rfl, hq, h1, (@FrSs.fr ziE B H _ _ (@FrSs.mono ziE _ _ _ _ (fun a o ha ho _ => ⟨k a ha, ho⟩) _ _ h2))⟩
  · obtain ⟨xs, h1, h2, h3⟩ := h
    exact ⟨q, xs, rfl, hq, .inl h1, h2, (@FrSs.fr ziE B H _ _ (@FrSs.mono ziE _ _ _ _ (fun a o ha ho _ => ⟨k a ha, ho⟩) _ _ h3))⟩
theorem ChS.frE {A B : Addr → Prop} {H : Hp} (k : ∀ a, A a → B a) : ∀ {ts : List (Bool × Dt)} {xs : List V} {qs : List Addr}, ChS A H ts xs qs → (∀ q ∈ qs, B q) → @FrAll ziE B H (ts.map (·.2)) xs
  | [], _, _, ⟨e, _⟩, _ => e
  | (b, d) :: ts, _, _, ⟨x, xs', e, .inl ⟨_, h1, h⟩⟩, hq => ⟨x, xs', e, (@FrS.fr ziE B H _ _ (@FrS.mono ziE _ _ _ _ (fun a o ha ho _ => ⟨k a ha, ho⟩) _ _ h1)), ChS.frE k h hq⟩
  | (b, d) :: ts, _, _, ⟨x, xs', e, .inr ⟨_, r, qs', e2, e3, h1, h2⟩⟩, hq => by
    subst e2
    exact ⟨_, xs', e, h1.frE k (hq r (by rw [e3]; exact List.mem_cons_self ..)), ChS.frE k h2 fun q hm => hq q (by rw [e3]; exact List.mem_cons_of_mem _ hm)⟩
theorem cells_of {s : PSt} {σ : L2.St} {F : List Pc} {H : Hp} {B : Heap} (hr : Rel c s σ F H) (hB : ∀ (j : Nat) (y : Str) (v : V), N[j]? = some y → sc.names.lookup y = some .cell → σ[j]? = some (some v) → ∃ cc u, lamP.cl.lookup y = some cc ∧ B.IsCell cc (some u) ∧ RelV v u) :
    ∀ {js : List Nat} {fr : List Str}, js.map (fun j => N[j]?) = fr.map some → (∀ y ∈ fr, sc.names.lookup y = some .cell) → js.all (okJ s) = true → ∃ ws, CellV lamP.cl B fr ws ∧ @FrAll ziF c.B H (capD s js) ws
  | [], fr, e, _, _ => by
    cases fr with
    | nil => exact ⟨[], rfl, rfl⟩
    | cons y fr => cases e
  | j :: js, fr, e, hf, ho => by
    cases fr with
    | nil => cases e
    | cons y fr =>
      rw [List.map_cons, List.map_cons] at e
      injection e with e1 e2
      rw [List.all_cons, Bool.and_eq_true] at ho
      obtain ⟨ws, w1, w2⟩ := cells_of hr hB e2 (fun z hz => hf z (List.mem_cons_of_mem _ hz)) ho.2
      have h1 := ho.1
      unfold okJ at h1
      split at h1
      · rename_i d hd
        obtain ⟨v, hv, h2⟩ := hr.get hd
        have hfr : Fr (Al c (s.zip σ ++ F)) H d v := h2.top.ok _ (List.mem_cons_self ..)
        refine ⟨v :: ws, ⟨v, ws, rfl, hB j y v e1 (hf y (List.mem_cons_self ..)) hv, w1⟩, ?_⟩
        show @FrAll ziF _ H (slD s[j]? :: capD s js) (v :: ws)
        rw [hd]
        exact ⟨v, ws, rfl, (@Fr.mono ziF _ c.B H H (fun a u ha hu => ⟨ha.1, hu⟩) _ _ (frX ziL ziF d h1 hfr)), w2⟩
      · rename_i C hC
        obtain ⟨o, eo⟩ := Option.isSome_iff_exists.mp h1
        obtain ⟨g1, g2, _⟩ := hr.clus hC
        obtain ⟨⟨ev, ea, _⟩, xs, x1, x2⟩ := C.obl g2 eo
        rw [ev] at g1
        refine ⟨.ref o.p :: ws, ⟨.ref o.p, ws, rfl, hB j y _ e1 (hf y (List.mem_cons_self ..)) g1, w1⟩, ?_⟩
        show @FrAll ziF _ H (slD s[j]? :: capD s js) (.ref o.p :: ws)
        rw [hC]
        show @FrAll ziF _ H ((match C.od with | some o => obDt o | none => .non) :: capD s js) (.ref o.p :: ws)
        rw [eo]
        have inB : ∀ q ∈ C.as, c.B q := fun q hq => by
          obtain ⟨bb, hb, hm⟩ := mem_zip hr.1 hC
          exact c.nb q (owns_in hr.2 (mem_owns (x := (Sl.cl C, bb)) (List.mem_append_left _ hm) hq)).1
        refine ⟨_, ws, rfl, ⟨o.p, o.dx, o.ns, _, xs, rfl, rfl, inB _ (by rw [ea]; exact List.mem_cons_self ..), x1, ?_⟩, w2⟩
        exact x2.frE (fun a ha => ha.1) fun q hq => inB q (by rw [ea]; exact List.mem_cons_of_mem _ hq)
      · cases h1
theorem close1 {s : PSt} {σ : L2.St} {F : List Pc} {H : Hp} {B : Heap} (hr : Rel c s σ F H) (hB : ∀ (j : Nat) (y : Str) (v : V), N[j]? = some y → sc.names.lookup y = some .cell → σ[j]? = some (some v) → ∃ cc u, lamP.cl.lookup y = some cc ∧ B.IsCell cc (some u) ∧ RelV v u)
    (hc : CapsOk lamP caps N sc) {d : Dt} {v : V} (h : Fr (Al c (s.zip σ ++ F)) H d v) (ho : okD1 caps s d = true) : @Fr (ziP (lamP.at B)) c.B H (closeD1 caps s d) v := by
  by_cases hd : ∃ n, d = .ob n []
  · obtain ⟨n, rfl⟩ := hd
    obtain ⟨h1, _⟩ := (show obL lamP n [] _ H v from h)
    unfold okD1 at ho
    rw [Bool.and_eq_true, beq_iff_eq] at ho
    obtain ⟨c1, c2⟩ := hc (n / 2)
    obtain ⟨ws, w1, w2⟩ := cells_of hr hB c1 c2 ho.2
    have e2 : (n + 1) / 2 = n / 2 := by omega
    show obL (lamP.at B) (n + 1) (capD s (caps (n / 2))) _ H v
    refine ⟨by rw [e2]; exact h1.mono fun a u ha hu => ⟨ha.1, u, hu, .inl rfl⟩, .inr ⟨by omega, ws, by rw [e2]; exact w1, w2⟩⟩
  · have hp : plainD d = true := by
      unfold okD1 at ho
      split at ho
      · exact absurd ⟨_, rfl⟩ hd
      · exact ho
    rw [(plainD_ok1 hp).2]
    exact @Fr.mono (ziP (lamP.at B)) _ c.B H H (fun a u ha hu => ⟨ha.1, hu⟩) _ _ (frX _ _ d hp h)
theorem close1s {s : PSt} {σ : L2.St} {F : List Pc} {H : Hp} {B : Heap} (hr : Rel c s σ F H) (hB : ∀ (j : Nat) (y : Str) (v : V), N[j]? = some y → sc.names.lookup y = some .cell → σ[j]? = some (some v) → ∃ cc u, lamP.cl.lookup y = some cc ∧ B.IsCell cc (some u) ∧ RelV v u)
    (hc : CapsOk lamP caps N sc) : ∀ {ds : List Dt} {vs : List V}, FrAll (Al c (s.zip σ ++ F)) H ds vs → ds.all (okD1 caps s) = true → @FrAll (ziP (lamP.at B)) c.B H (ds.map (closeD1 caps s)) vs
  | [], _, h, _ => h
  | d :: ds, _, h, ho => by
    obtain ⟨v, ws, rfl, h1, h2⟩ := h
    rw [List.all_cons, Bool.and_eq_true] at ho
    exact ⟨v, ws, rfl, close1 hr hB hc h1 ho.1, close1s hr hB hc h2 ho.2⟩
theorem closes {s : PSt} {σ : L2.St} {F : List Pc} {H : Hp} {B : Heap} (hr : Rel c s σ F H) (hB : ∀ (j : Nat) (y : Str) (v : V), N[j]? = some y → sc.names.lookup y = some .cell → σ[j]? = some (some v) → ∃ cc u, lamP.cl.lookup y = some cc ∧ B.IsCell cc (some u) ∧ RelV v u)
    (hc : CapsOk lamP caps N sc) : ∀ {ds : List Dt} {vs : List V}, FrAll (Al c (s.zip σ ++ F)) H ds vs → ds.all (okDl caps s) = true → @FrAll (ziP (lamP.at B)) c.B H (ds.map (closeD caps s)) vs
  | [], _, h, _ => h
  | d :: ds, _, h, ho => by
    obtain ⟨v, ws, rfl, h1, h2⟩ := h
    rw [List.all_cons, Bool.and_eq_true] at ho
    refine ⟨v, ws, rfl, ?_, closes hr hB hc h2 ho.2⟩
    cases d with
    | lst es =>
      obtain ⟨a, xs, e, ha, hh, hk⟩ := h1
      exact ⟨a, xs, e, ha.1, hh, close1s hr hB hc hk ho.1⟩
    | _ => exact close1 hr hB hc h1 ho.1
theorem ce_callH {pp : LamP} (ep : lamP = pp) (hc : CapsOk lamP caps N sc) (ha : CA c t pa) : CE c (tCallH pp N sc (fun B => @spZ (ziP (pp.at B)) pf) t) (pCallH caps pf pa) := fun F s σ H Q R hr hp k => by
  subst ep
  refine ha F s σ H _ _ hr hp fun ds s1 vs H1 ⟨q0, q⟩ e h1 B hcell hB => ?_
  have h2 := fzs_drop h1
  refine ⟨c.B, fun b => c.Zd b ∨ c.H0 b = none, _, _, closes h2 hB hc (fzs_fr e h1) q0, ?_, q, fun b d v H' ⟨r1, r2⟩ hl => ?_⟩
  · obtain ⟨Hz, z1, z2⟩ := h2.2.iv
    exact ⟨Hz, z1, fun b o z => ⟨(z2 b o z).1, (z2 b o z).2.1, .inl ⟨by rw [(z2 b o z).1]; simp, (z2 b o z).2.2⟩⟩⟩
  · have hl2 := relP (noLd_plain r1) hl
    have h3 : RelL c (s1.zip σ ++ F) H' := h2.2.exN hl2.old (fun x z => z.elim id fun z => c.nb _ (h2.2.h0 z)) (by
      obtain ⟨Hz, z1, z2⟩ := hl2.iv
      refine ⟨Hz, z1, fun b o z => ⟨(z2 b o z).1, (z2 b o z).2.1, ?_⟩⟩
      rcases (z2 b o z).2.2 with z | z
      · exact z.2
      · exact .inr (h2.2.h0 z))
    have hk := hl2.ok _ (List.mem_cons_self ..)
    cases b with
    | true =>
      cases v <;> try exact hk.elim
      cases d <;> first | (cases r1; done) | exact hk.2.elim
    | false =>
      refine k _ _ _ _ _ r2 (.of_top h2.1 (h3.fr (noLd_fr (fun a u ha hu ht => ⟨?_, fun z => ?_⟩) r1 hk)))
      · exact ha.1.elim id fun z => c.nb _ (h2.2.h0 z)
      · have := owns_no h3 z hu
        rw [this] at ht
        cases ht
end
end Lt
namespace Lt
open PySem PySem.Spec PyProof.Rows L2 Evl LamX
open SX (S)
/-- the k-th part of an expression -/
def exAt (e : Expr) (k : Nat) : Expr := match e with
  | .List es _ => es.getD k e
  | .Tuple es _ _ => es.getD k e
  | .BoolOp _ es _ => es.getD k e
  | .BinOp a _ b _ => if k = 0 then a else b
  | .UnaryOp _ a _ => a
  | .Compare a _ es _ => (a :: es).getD k e
  | .Call f es _ _ => (f :: es).getD k e
  | .Attribute a _ _ => a
  | .Subscript a b _ => if k = 0 then a else b
  | .IfExp a b c _ => if k = 0 then a else if k = 1 then b else c
  | _ => e
def stE (s : Stmt) : Expr := match s with
  | .Assign _ e _ => e
  | .Expr e _ => e
  | .Return (some e) _ => e
  | .If e _ _ _ => e
  | .For _ e _ _ _ => e
  | .AugAssign _ _ e _ => e
  | _ => .Tuple [] 0 ⟨0, 0, 0, 0⟩
/-- the j-th statement of the first block, of the second one -/
def stB (s : Stmt) (second : Bool) (j : Nat) : Stmt := match s with
  | .If _ a b _ => (if second then b else a).getD j s
  | .For _ _ a b _ => (if second then b else a).getD j s
  | .While _ a b _ => (if second then b else a).getD j s
  | _ => s
def lamOf (e : Expr) (ps fr : List Str) : LamT := match e with
  | .Lambda a b sc _ => ⟨a, b, sc, ps, fr⟩
  | _ => ⟨⟨[], [], none, [], [], none, []⟩, e, ⟨.function, [], false, false, []⟩, ps, fr⟩
def lamNo : LamT := ⟨⟨[], [], none, [], [], none, []⟩, .Tuple [] 0 ⟨0, 0, 0, 0⟩, ⟨.function, [], false, false, []⟩, [], []⟩
def pfNo : PFX := fun _ _ _ => False
theorem lamOk_no [HasLam] {P : Program} {w : World} {K : PySem.W.Frag} {mg : Str → Option Value} {k i : Nat} : LamOk P w K mg k i pfNo := fun A outer s H f c dV ws Q E hr e0 hf hc hd hv h => by
  obtain ⟨_, _, _, _, _, _, _, h, _⟩ := h
  exact h.elim
theorem cells_ge : ∀ (l : List (Str × NameKind)) (n m : Nat) (acc : List (Str × Addr)), m ≤ n → (∀ q ∈ acc, m ≤ q.2) → ∀ q ∈ cellsFrom n l acc, m ≤ q.2
  | [], n, m, acc, _, h => h
  | (x, k) :: l, n, m, acc, hn, h => by
    unfold cellsFrom
    split
    · exact cells_ge l (n + 1) m _ (by omega) fun q hq => by
        rcases List.mem_cons.mp hq with rfl | hq
        · exact hn
        · exact h q hq
    · exact cells_ge l n m acc hn h
section
variable {CX : CXT} {P : Program} {w : World} {K : PySem.W.Frag} {mg : Str → Option Value} {base : Heap} {x qual : Str} {params : Arguments} {body : List Stmt} {scope : Scope} {dvs : List V} {kws : List (Str × V)} {f : Addr} {fd : FuncData}
theorem env_ge {n : Nat} {cd : Value} {y : Str} {c : Addr} (h : (envOfC qual scope n f cd).cells.lookup y = some c) : n ≤ c :=
  cells_ge scope.names (n + 1) n [] (by omega) (by simp) (y, c) (PySem.mem_of_lookup h)
theorem FunD.okC {N ps : List Str} {k : Nat} {sp : Sp} (F : FunD K x qual params body scope dvs kws f fd) (S : FnScope N ps scope) (len : ∀ vs H Q E, sp vs H Q E → vs.length = ps.length)
    (hb : ∀ (A : Around) (outer : List Env) (s : Shared) (H : Hp) (vs : List V) (Q : VK) (E : XK), Room k (A.deeper (envOfC qual scope s.heap.objs.size f fd.code)) → sp vs H Q E →
      ∃ t, PSs (cxOf CX P w K mg base N qual scope f fd.code A outer s H E) body t ∧ t { nx := fun _ H' => Q .non H', rt := Q } (L2.start N vs) H) : FnOk P w K mg base CX (k + 1) f fd ps sp := by
  obtain ⟨oc, od, dV, kV, doc, pm, an, cdv, ct, osl, rfl, lk, hcd, _, _⟩ := F.ex
  exact fn_of lk hcd S len fun A outer s H vs Q E hr hsp => hb A outer s H vs Q E hr hsp
/-- its code object is the one that the head tells -/
theorem FunD.codeC {p : Str × Option Str} (F : FunD K x qual params body scope dvs kws (He.fAd K p) fd) : fd.code = .ref (He.cT K p).1 := by
  obtain ⟨oc, od, dV, kV, doc, pm, an, cdv, ct, osl, e, lk, hcd, _, _⟩ := F.ex
  obtain ⟨c, hc⟩ := He.codeIn_ref hcd
  have e1 : fd.code = .ref c := by rw [e]; exact hc
  rw [e1]
  exact congrArg Value.ref (He.codeOf_eq lk e1).symm
end
/-- .. with one -/
structure Rn (K : PySem.W.Frag) (C fI : Addr) (flds : List Str) : Prop where
  ox : OexC K C
  ic : PySem.W.findIn K (.ref C) "__init__" = some (some (.ref fI))
  ti : PySem.W.typeIn K (.ref fI) = some (.type "function")
  no : ∀ f ∈ flds, PySem.W.findIn K (.ref C) f = some none
def rnB (K : PySem.W.Frag) (x : Str) (flds : List Str) : Bool := oexB K (He.ga K x) && (He.eqO (PySem.W.findIn K (.ref (He.ga K x)) "__init__") (some (some (.ref (He.ma K (He.ga K x) "__init__")))) && (decide (PySem.W.typeIn K (.ref (He.ma K (He.ga K x) "__init__")) = some (.type "function")) && flds.all fun f => He.eqO (PySem.W.findIn K (.ref (He.ga K x)) f) (some none)))
theorem rnB_ok {K : PySem.W.Frag} {x : Str} {flds : List Str} (h : rnB K x flds = true) : Rn K (He.ga K x) (He.ma K (He.ga K x) "__init__") flds := by
  obtain ⟨h1, h⟩ := bAnd h
  obtain ⟨h2, h⟩ := bAnd h
  obtain ⟨h3, h4⟩ := bAnd h
  exact ⟨oexB_ok h1, He.eqO_ok h2, of_decide_eq_true h3, fun f hf => He.eqO_ok (List.all_eq_true.mp h4 f hf)⟩
section
variable {X : Cx} {x m : Str} {C : Addr} {j : Nat} {p p2 pos : Pos}
theorem pmk_n {fI : Addr} {k : Nat} {fd : FuncData} {ps flds : List Str} {sp : Sp} {e : Expr} {es : List Expr} {ta : TA} (r : Rn X.K C fI flds) (F1 : FnOk X.prog X.w X.K X.mg X.base CX0 k fI fd ps sp) (hr : Room (k + 1) X.A) (hb : L2.Binds X.K fd ps []) (gC : X.mg x = some (.ref C)) (hg : Gl X x) (ha : PA X (e :: es) ta)
    (hdb : (x == ("__debug__" : Str)) = false := by decide) (he : starEach (e :: es) X.env = (false, eval e X.env) :: starEach es X.env := by rfl) (hpl : (backTo pos (starEach es X.env)).any (·.1) = false := by rfl) :
    PMk X (.Call (.Name x p) (e :: es) [] pos) (tMkO C sp [] ta) := pmk_oex r.ox r.ic r.ti F1 hr hb .nil pass0 hg gC ha hdb he hpl
end
/-- __init__ as the text has it, with its promise -/
structure HasI (P : Program) (w : World) (K : PySem.W.Frag) (mg : Str → Option Value) (base : Heap) (x : Str) (ps flds : List Str) : Prop where
  ex : ∃ (C fI : Addr) (fd : FuncData), mg x = some (.ref C) ∧ Rn K C fI flds ∧ L2.Binds K fd ps [] ∧ FnOk P w K mg base CX0 1 fI fd ps (spIni K flds)
theorem mt_indexK {X : Cx} {K : PySem.W.Frag} (hK : X.K = K) : MtR X "list.index" (rIndex K) := hK ▸ mt_index
theorem zIn_tstrs [ZI] {x : List Nat} {l : List (List Nat)} {R : DQ} (k : R false (.bl (decide (x ∈ l)))) : zIn (.str x) (.tup (l.map .str)) R :=
  ⟨Tx x, rfl, l.map fun y => Tx y, by rw [List.map_map, List.map_map]; rfl, by rw [inV_strs, Bool.false_xor]; exact k⟩
/-- how a lambda may end: normally (if N0), or refused (so) -/
def Out (pf : PFX) (cs : List Dt) (N0 : Prop) (X0 : XQ) : Prop := ∀ (R : DQ) (X : XQ), (N0 → ∀ b d, R b d) → (∀ x, X0 x → X x) → pf cs R X
theorem ivL [HasLam] {H : Hp} {Pt : Addr} {q : Str} (hT : lamP.T = [(Pt, q)]) (h : H Pt = some (.tbl #[])) : IvH H := by
  refine ⟨fun b => if b = Pt then some (.tbl #[]) else none, ?_, fun b o hb => ?_⟩
  · show Tabs lamP.T _
    rw [hT]
    intro p hp
    rw [List.mem_singleton.mp hp]
    exact TabS.nil (if_pos rfl)
  · dsimp only at hb
    split at hb
    · rename_i e
      cases hb
      rw [e]
      exact ⟨h, rfl⟩
    · cases hb
/-- the law's end with tables and one more Bool -/
theorem ex_at {l : List (PySem.W.Frag → Bool)} {K : PySem.W.Frag} (h : (l.all fun b => b K) = true) (i : Nat) {b : PySem.W.Frag → Bool} (hb : l[i]? = some b := by rfl) : b K = true := List.all_eq_true.mp h b (List.mem_of_getElem? hb)
end Lt
namespace Lt
open PySem PySem.Spec PyProof.Rows L2 Evl LamX
open SX (S)
/-- what may be handed -/
def argOk : Dt → Prop
  | .str r => r.length ≤ 10000 ∧ okT r
  | .val _ => False
  | .dice => False
  | .ob _ _ => False
  | .dic _ _ => False
  | _ => True
theorem findr {p : Nat → Bool} {i : Nat} (h : (List.range i).find? p = none) (hp : p i = false) : (List.range (i + 1)).find? p = none := by
  rw [List.range_succ, List.find?_append, h, List.find?_cons, hp]
  rfl
theorem findr_hit {p : Nat → Bool} {i n : Nat} (hi : i < n) (h : (List.range i).find? p = none) (hp : p i = true) : (List.range n).find? p = some i := by
  obtain ⟨k, rfl⟩ : ∃ k, n = i + 1 + k := ⟨n - (i + 1), by omega⟩
  have e : List.range (i + 1 + k) = List.range (i + 1) ++ (List.range k).map (i + 1 + ·) := List.range_add ..
  rw [e, List.find?_append, List.range_succ, List.find?_append, h, List.find?_cons, hp]
  rfl
/-- a whole number from lo to hi, no truth -/
def numB (d : Dt) (lo hi : Int) : Bool := match d with
  | .int i => decide (lo ≤ i ∧ i ≤ hi)
  | _ => false
theorem numB_nat {d : Dt} {n : Nat} (h : numB d 0 ((n : Int) - 1) = true) : ∃ i : Nat, d = .int (i : Int) ∧ i < n := by
  cases d with
  | int i =>
    have h2 := of_decide_eq_true h
    exact ⟨i.toNat, by rw [Int.toNat_of_nonneg h2.1], by omega⟩
  | _ => cases h
theorem Out.x {pf : PFX} {cs : List Dt} {x : Xd} (h : ∀ (R : DQ) (X : XQ), X x → pf cs R X) : Out pf cs False (fun y => y = x) := fun R X _ hx => h R X (hx _ rfl)
end Lt
namespace Lt
open PySem PySem.Spec PyProof.Rows L2 Evl LamX
open SX (S)
def asY (g : Addr → Option Obj) (n : Nat) : List Addr := cStatics :: He.asD g n
def obsY (n : Nat) (fa : List He.Fa) (fn : List He.DefD) (tf : List He.Defn) (ex : PySem.W.Frag → Bool) (g : Addr → Option Obj) : He.AlX :=
  (He.obsT fa fn [] (He.frT g (asY g n)), ex (He.frT g (asY g n)) && He.tabsB g tf (He.frT g (asY g n)))
theorem saysY_of {fa : List He.Fa} {fn : List He.DefD} {tf : List He.Defn} {ex : PySem.W.Frag → Bool} {w : World} {h : Heap} {as : List Addr}
    (e : ((He.obsT fa fn [] (He.frT h.get? as), ex (He.frT h.get? as) && He.tabsB h.get? tf (He.frT h.get? as)) : He.AlX) = He.valX fn [] w) : He.SaysX fa fn [] tf ex w h (He.frT h.get? as) := by
  have e1 : He.obsT fa fn [] (He.frT h.get? as) = He.valT fn [] w := congrArg (fun z : He.AlX => z.1) e
  have e2 : (ex (He.frT h.get? as) && He.tabsB h.get? tf (He.frT h.get? as)) = true := congrArg (fun z : He.AlX => z.2) e
  obtain ⟨h1, h2⟩ := bAnd e2
  have key : ∀ p ∈ tf, PySem.W.codeHdIn (He.frT h.get? as) (He.cT (He.frT h.get? as) p).1 (He.cT (He.frT h.get? as) p).2 = true ∧ ∃ o, h.get? (He.cT (He.frT h.get? as) p).2 = some o ∧ He.emptyTab o = true := fun p hp => by
    obtain ⟨h3, h4⟩ := bAnd (List.all_eq_true.mp h2 p hp)
    refine ⟨h3, ?_⟩
    cases q : h.get? (He.cT (He.frT h.get? as) p).2 with
    | none =>
      rw [q] at h4
      cases h4
    | some o =>
      rw [q] at h4
      exact ⟨o, rfl, h4⟩
  refine ⟨e1, h1, fun p hp => (key p hp).1, fun p hp => ?_, fun p hp => ?_⟩
  · obtain ⟨_, o, q, z⟩ := key p hp
    exact He.frT_none q z
  · obtain ⟨_, o, q, z⟩ := key p hp
    rw [q, He.emptyTab_eq z]
def hookY (n : Nat) (fa : List He.Fa) (fn : List He.DefD) (tf : List He.Defn) (ex : PySem.W.Frag → Bool) : PySem.W.Hook where
  α := He.AlX
  obs := fun s => obsY n fa fn tf ex s.heap.get?
  val := fun w => He.valX fn [] w
  says := fun w h => ∃ K : PySem.W.Frag, K.In h ∧ He.SaysX fa fn [] tf ex w h K
  of := fun _ _ e => ⟨_, He.frT_in, saysY_of e⟩
  keeps := fun _ _ _ ⟨K, hK, c⟩ k => ⟨K, PySem.W.Frag.In.keeps hK k, ⟨c.t, c.more, c.hd, c.out, fun p hp => k _ _ (c.empty p hp)⟩⟩
theorem obsY_eq {n : Nat} {fa : List He.Fa} {fn : List He.DefD} {tf : List He.Defn} {ex : PySem.W.Frag → Bool} {g : Addr → Option Obj} {s : Shared} (h : ∀ a, g a = s.heap.get? a) : obsY n fa fn tf ex g = (hookY n fa fn tf ex).obs s := by
  have e : g = s.heap.get? := funext h
  rw [e] <;> rfl
end Lt
namespace Lt
open PySem PySem.Spec PyProof.Rows L2 Evl LamX
open SX (S)
/-- the items of a tuple -/
def tupD : Dt → Option (List Dt)
  | .tup ds => some ds
  | .tpk ds => some ds
  | _ => none
/-- why what is handed can't be done as a turn -/
def whyD (row held : List Nat) (d : Dt) : List Nat := match tupD d with
  | some [.int h, .int t] => whyM row held h t
  | _ => [112, 108, 97, 99, 101]
theorem whyD_not2 {row held : List Nat} {d : Dt} {es : List Dt} (e : tupD d = some es) (h : es.length ≠ 2) : whyD row held d = [112, 108, 97, 99, 101] := by
  unfold whyD
  rw [e]
  split
  · rename_i q
    cases q
    exact absurd rfl h
  · rfl
/-- what may be handed as a turn -/
def TurnArg (d : Dt) : Prop := argOk d ∧ ∀ es, tupD d = some es → ∀ e ∈ es, argOk e
/-- a turn of what is handed that can be done -/
theorem whyD_ok {row held : List Nat} {d : Dt} (h : whyD row held d = []) : ∃ q : Nat × Nat, (d = dPr q ∨ d = .tpk [.int q.1, .int q.2]) ∧ whyM row held q.1 q.2 = [] := by
  unfold whyD at h
  split at h
  · rename_i h0 t0 e
    have h1 : 0 ≤ h0 ∧ h0 < t0 ∧ t0 < row.length := by
      unfold whyM at h
      split at h
      · assumption
      · cases h
    refine ⟨(h0.toNat, t0.toNat), ?_, ?_⟩
    · have e1 : (h0.toNat : Int) = h0 := by omega
      have e2 : (t0.toNat : Int) = t0 := by omega
      unfold dPr
      rw [e1, e2]
      cases d <;> cases e
      · exact .inl rfl
      · exact .inr rfl
    · show whyM row held (h0.toNat : Int) (t0.toNat : Int) = []
      rw [show (h0.toNat : Int) = h0 by omega, show (t0.toNat : Int) = t0 by omega]
      exact h
  · cases h
/-- (number, why) of what is refused, on the heap's side -/
def turnXd (n : Nat) (l : List Nat) : Xd := ⟨"BadTurn", [("why", Tx l), ("number", .int (n : Int))]⟩
end Lt
namespace Lt
open PySem PySem.Spec PyProof.Rows L2 Evl
open SX (S)
variable [ZI]
@[reducible] def obC (o : ObD) : Cl where
  v := .ref o.p
  as := o.p :: o.qs
  φ A H := ∃ xs : List V, H o.p = some (.ins o.C o.dx (o.nm.zip xs)) ∧ ChS A H o.ts xs o.qs
  lk d w := ∃ (j : Nat) (q : Addr), o.ts[j]? = some (true, d) ∧ o.qs[rkB o.ts j]? = some q ∧ w = .ref q
  own := fun ⟨xs, h1, h2⟩ q hq => by
    rcases List.mem_cons.mp hq with rfl | hq
    · exact ⟨_, h1, rfl⟩
    · exact h2.own q hq
  mono := fun k kq ⟨xs, h1, h2⟩ => ⟨xs, kq o.p (List.mem_cons_self ..) _ h1, h2.mono k fun q hq => kq q (List.mem_cons_of_mem _ hq)⟩
  look := fun ⟨xs, h1, h2⟩ ⟨j, q, e1, e2, e3⟩ => by
    obtain ⟨q', g1, g2, g3⟩ := h2.get e1
    rw [e2] at g2
    cases g2
    exact ⟨q, e3, List.mem_cons_of_mem _ (List.mem_of_getElem? e2), g3⟩
  od := some o
  obl := fun h e => by
    cases e
    exact ⟨⟨rfl, rfl, fun j q d e1 e2 => ⟨j, q, e1, e2, rfl⟩⟩, h⟩
@[reducible] def obAt (s : PSt) (k : Nat) : Option ObD := match s[k]? with
  | some (.cl C) => C.od
  | _ => none
/-- the class whose objects are known -/
class OB where
  C : Addr
  ns : List (List Nat)
abbrev OB.nm [OB] : List Str := OB.ns.map S
/-- it is one of that class -/
def isOb [OB] (o : ObD) : Prop := o.C = OB.C ∧ o.ns = OB.ns
theorem isOb.nm [OB] {o : ObD} (h : isOb o) : o.nm = OB.nm := by unfold ObD.nm; rw [h.2]
section
variable {c : Ctx} {K : PySem.W.Frag} {s : PSt} {σ : L2.St} {F : List Pc} {H H' : Hp} {k j : Nat} {o : ObD} {f : Str}
theorem obAt_cl (h : obAt s k = some o) : ∃ C, s[k]? = some (.cl C) ∧ C.od = some o := by
  unfold obAt at h
  split at h
  · exact ⟨_, by assumption, h⟩
  · cases h
theorem Rel.ob (h : Rel c s σ F H) (e : obAt s k = some o) : σ[k]? = some (some (.ref o.p)) ∧ (o.p :: o.qs).Nodup ∧ ∃ xs : List V, H o.p = some (.ins o.C o.dx (o.nm.zip xs)) ∧ ChS (Al c (s.zip σ ++ F)) H o.ts xs o.qs := by
  obtain ⟨C, h1, h2⟩ := obAt_cl e
  obtain ⟨g1, g2, g3⟩ := h.clus h1
  obtain ⟨⟨e1, e2, _⟩, xs, x1, x2⟩ := C.obl g2 h2
  rw [e1] at g1
  rw [e2] at g3
  exact ⟨g1, g3, xs, x1, x2⟩
end
end Lt
namespace Lt
open PySem PySem.Spec PyProof.Rows L2 Evl
open SX (S)
variable [ZI]
/-- a value that may become a field -/
def FldV (A : Addr → Prop) (H : Hp) (b : Bool) (d : Dt) (v : V) (qs : List Addr) : Prop := (b = false ∧ FrS A H d v ∧ qs = []) ∨ (b = true ∧ ∃ q, v = .ref q ∧ qs = [q] ∧ AtS A H d q)
theorem ChS.put {A A' : Addr → Prop} {H H' : Hp} {b : Bool} {d : Dt} {v : V} {rs : List Addr} (k : ∀ a o, A a → H a = some o → stayO o = true → A' a ∧ H' a = some o) (hv : FldV A' H' b d v rs) : ∀ {ts : List (Bool × Dt)} {xs : List V} {qs : List Addr} {j : Nat}, ChS A H ts xs qs → j < ts.length → qs.Nodup → (∀ q ∈ qs, q ∉ rs) → rs.Nodup →
    (∀ q ∈ qs, ∀ o, H q = some o → H' q = some o) → ∃ qs', ChS A' H' (ts.set j (b, d)) (xs.set j v) qs' ∧ qs'.Nodup ∧ ∀ r ∈ qs', r ∈ qs ∨ r ∈ rs
  | [], _, _, j, _, hj, _, _, _, _ => by simp at hj
  | (b0, d0) :: ts, _, qs, 0, ⟨x, xs', ex, h⟩, _, nd, hq, nr, kq => by
    subst ex
    rw [List.set_cons_zero, List.set_cons_zero]
    have tail : ∃ qs0, ChS A' H' ts xs' qs0 ∧ qs0.Nodup ∧ ∀ r ∈ qs0, r ∈ qs := by
      rcases h with ⟨_, _, h2⟩ | ⟨_, q, qs', _, e3, _, h2⟩
      · exact ⟨qs, h2.mono k kq, nd, fun r hr => hr⟩
      · subst e3
        exact ⟨qs', h2.mono k fun r hr => kq r (List.mem_cons_of_mem _ hr), (List.nodup_cons.mp nd).2, fun r hr => List.mem_cons_of_mem _ hr⟩
    obtain ⟨qs0, t1, t2, t3⟩ := tail
    rcases hv with ⟨rfl, h1, rfl⟩ | ⟨rfl, q, rfl, rfl, h1⟩
    · exact ⟨qs0, ⟨v, xs', rfl, .inl ⟨rfl, h1, t1⟩⟩, t2, fun r hr => .inl (t3 r hr)⟩
    · exact ⟨q :: qs0, ⟨_, xs', rfl, .inr ⟨rfl, q, qs0, rfl, rfl, h1, t1⟩⟩, List.nodup_cons.mpr ⟨fun z => hq q (t3 q z) (List.mem_singleton.mpr rfl), t2⟩, fun r hr => (List.mem_cons.mp hr).elim (fun e => .inr (List.mem_singleton.mpr e)) fun z => .inl (t3 r z)⟩
  | (b0, d0) :: ts, _, qs, j + 1, ⟨x, xs', ex, h⟩, hj, nd, hq, nr, kq => by
    subst ex
    have hj2 : j < ts.length := by simpa using hj
    rw [List.set_cons_succ, List.set_cons_succ]
    rcases h with ⟨rfl, h1, h2⟩ | ⟨rfl, q, qs', e2, e3, h1, h2⟩
    · obtain ⟨qs0, t1, t2, t3⟩ := ChS.put k hv h2 hj2 nd hq nr kq
      exact ⟨qs0, ⟨x, _, rfl, .inl ⟨rfl, h1.mono k, t1⟩⟩, t2, t3⟩
    · subst e2 e3
      have n2 := List.nodup_cons.mp nd
      obtain ⟨qs0, t1, t2, t3⟩ := ChS.put k hv h2 hj2 n2.2 (fun r hr => hq r (List.mem_cons_of_mem _ hr)) nr fun r hr => kq r (List.mem_cons_of_mem _ hr)
      refine ⟨q :: qs0, ⟨_, _, rfl, .inr ⟨rfl, q, qs0, rfl, rfl, h1.mono k (kq q (List.mem_cons_self ..)), t1⟩⟩, List.nodup_cons.mpr ⟨fun z => ?_, t2⟩, fun r hr => ?_⟩
      · rcases t3 q z with z | z
        · exact n2.1 z
        · exact hq q (List.mem_cons_self ..) z
      · rcases List.mem_cons.mp hr with rfl | hr
        · exact .inl (List.mem_cons_self ..)
        · exact (t3 r hr).imp (List.mem_cons_of_mem _) id
theorem ChS.snoc {A A' : Addr → Prop} {H H' : Hp} {b : Bool} {d : Dt} {v : V} {rs : List Addr} (k : ∀ a o, A a → H a = some o → stayO o = true → A' a ∧ H' a = some o) (hv : FldV A' H' b d v rs) : ∀ {ts : List (Bool × Dt)} {xs : List V} {qs : List Addr}, ChS A H ts xs qs → (∀ q ∈ qs, ∀ o, H q = some o → H' q = some o) →
    ChS A' H' (ts ++ [(b, d)]) (xs ++ [v]) (qs ++ rs)
  | [], _, _, ⟨e1, e2⟩, _ => by
    subst e1 e2
    rcases hv with ⟨rfl, h1, rfl⟩ | ⟨rfl, q, rfl, rfl, h1⟩
    · exact ⟨v, [], rfl, .inl ⟨rfl, h1, rfl, rfl⟩⟩
    · exact ⟨_, [], rfl, .inr ⟨rfl, q, [], rfl, rfl, h1, rfl, rfl⟩⟩
  | (b0, d0) :: ts, _, qs, ⟨x, xs', ex, h⟩, kq => by
    subst ex
    rcases h with ⟨rfl, h1, h2⟩ | ⟨rfl, q, qs', e2, e3, h1, h2⟩
    · exact ⟨x, _, rfl, .inl ⟨rfl, h1.mono k, ChS.snoc k hv h2 kq⟩⟩
    · subst e2 e3
      exact ⟨_, _, rfl, .inr ⟨rfl, q, _, rfl, rfl, h1.mono k (kq q (List.mem_cons_self ..)), ChS.snoc k hv h2 fun r hr => kq r (List.mem_cons_of_mem _ hr)⟩⟩
end Lt
namespace Lt
open PySem PySem.Spec PyProof.Rows L2 Evl
open SX (S)
variable [ZI]
section
variable {c : Ctx} {K : PySem.W.Frag} {s : PSt} {σ : L2.St} {F L : List Pc} {H H' : Hp} {k j : Nat} {o : ObD} {f : Str} {b : Bool} {d : Dt} {v : V} {mg : Str → Option Value} {E : XK} {X : ObD → XQ}
def LXO (c : Ctx) (mg : Str → Option Value) (X : ObD → XQ) (E : XK) : Prop := ∀ o x cls d H, X o x → RelL c [(.cl (obC o), some (.ref o.p))] H → XR mg x cls d H → E cls d H
end
end Lt
namespace Lt
open PySem PySem.Spec PyProof.Rows L2 Evl
open SX (S)
section
local instance ziFl : ZI := ziF
variable {c : Ctx} {K : PySem.W.Frag} {s : PSt} {σ : L2.St} {F L : List Pc} {H H' : Hp} {k j : Nat} {f : Str} {mg : Str → Option Value} {E : XK} {X : XQ}
end
end Lt
namespace Lt
open PySem PySem.Spec PyProof.Rows L2 Evl
open SX (S)
section
variable [ZI]
variable {c : Ctx} {K : PySem.W.Frag} {s : PSt} {σ : L2.St} {F L : List Pc} {H H' : Hp} {k j : Nat} {o : ObD} {f : Str} {mg : Str → Option Value} {E E1 : XK} {X : XQ}
theorem LX.ob (lx : LX c mg X E) : LXO c mg (fun _ x => X x) E := fun o x cls d H hx hr r => lx x cls d H hx hr.nil r
end
end Lt
namespace Lt
open PySem PySem.Spec PyProof.Rows L2 Evl
open SX (S)
/-- row, pins, pieces laid aside -/
structure Bn where
  row : List Nat
  pins : List Nat
  pcs : List (List Nat)
/-- a deed that stands: its word, all ahead, all behind -/
structure Ent where
  w : List Nat
  a : Bn
  b : Bn
inductive Deed where
  | turn (h t : Nat) | grow (c : Nat) (fr : Bool) | trim (fr : Bool) | cut (n : Nat) | join | pin (l : List Nat) | back | again
@[reducible] def wordB : Deed → List Nat
  | .turn _ _ => [116, 117, 114, 110]
  | .grow _ _ => [103, 114, 111, 119]
  | .trim _ => [116, 114, 105, 109]
  | .cut _ => [99, 117, 116]
  | .join => [106, 111, 105, 110]
  | .pin _ => [112, 105, 110]
  | .back => [98, 97, 99, 107]
  | .again => [97, 103, 97, 105, 110]
def goB (b : Bn) : Deed → Bn
  | .turn h t => ⟨turnM b.row h t, b.pins, b.pcs⟩
  | .grow c true => ⟨c :: b.row, b.pins, b.pcs⟩
  | .grow c false => ⟨b.row ++ [c], b.pins, b.pcs⟩
  | .trim true => ⟨b.row.drop 1, b.pins, b.pcs⟩
  | .trim false => ⟨b.row.dropLast, b.pins, b.pcs⟩
  | .cut n => ⟨b.row.take (n + 1), b.pins, b.pcs ++ [b.row.drop (n + 1)]⟩
  | .join => ⟨b.row ++ b.pcs.getLast?.getD [], b.pins, b.pcs.dropLast⟩
  | .pin l => ⟨b.row, l, b.pcs⟩
  | .back => b
  | .again => b
structure StOk (n : Nat) (b : Bn) : Prop where
  row : RowOk b.row
  pins : b.pins.Sublist abcS
  len : b.pcs.length ≤ n
  pcs : ∀ p ∈ b.pcs, RowOk p
theorem StOk.mono {m n : Nat} {b : Bn} (h : StOk m b) (l : m ≤ n) : StOk n b := ⟨h.row, h.pins, Nat.le_trans h.len l, h.pcs⟩
structure Wb where
  b : Bn
  P : List Ent
  U : List Ent
/-- deeds follow one another up to what stands -/
inductive ChP : List Ent → Bn → Prop
  | nil (b) : ChP [] b
  | snoc {P w a b} : ChP P a → ChP (P ++ [⟨w, a, b⟩]) b
inductive ChU : List Ent → Bn → Prop
  | nil (b) : ChU [] b
  | snoc {U w a b} : ChU U b → ChU (U ++ [⟨w, a, b⟩]) a
theorem ChP.last {P : List Ent} {b : Bn} (h : ChP P b) {e : Ent} (he : P.getLast? = some e) : e.b = b ∧ ChP P.dropLast e.a := by
  cases h with
  | nil => cases he
  | snoc h =>
    rw [List.getLast?_append] at he
    simp at he
    subst he
    exact ⟨rfl, by simpa using h⟩
theorem ChU.last {U : List Ent} {b : Bn} (h : ChU U b) {e : Ent} (he : U.getLast? = some e) : e.a = b ∧ ChU U.dropLast e.b := by
  cases h with
  | nil => cases he
  | snoc h =>
    rw [List.getLast?_append] at he
    simp at he
    subst he
    exact ⟨rfl, by simpa using h⟩
def EntOk (n : Nat) (e : Ent) : Prop := StOk n e.a ∧ StOk n e.b ∧ e.w.length ≤ 5 ∧ (∀ c ∈ e.w, c < 200)
structure WbOk (n : Nat) (w : Wb) : Prop where
  b : StOk n w.b
  P : ∀ e ∈ w.P, EntOk n e
  U : ∀ e ∈ w.U, EntOk n e
  lP : w.P.length ≤ n
  lU : w.U.length ≤ n
  cP : ChP w.P w.b
  cU : ChU w.U w.b
theorem EntOk.mono {m n : Nat} {e : Ent} (h : EntOk m e) (l : m ≤ n) : EntOk n e := ⟨h.1.mono l, h.2.1.mono l, h.2.2⟩
theorem WbOk.mono {m n : Nat} {w : Wb} (h : WbOk m w) (l : m ≤ n) : WbOk n w := ⟨h.b.mono l, fun e he => (h.P e he).mono l, fun e he => (h.U e he).mono l, Nat.le_trans h.lP l, Nat.le_trans h.lU l, h.cP, h.cU⟩
def bkB (w : Wb) : Wb := match w.P.getLast? with
  | none => w
  | some e => ⟨e.a, w.P.dropLast, w.U ++ [e]⟩
def agB (w : Wb) : Wb := match w.U.getLast? with
  | none => w
  | some e => ⟨e.b, w.P ++ [e], w.U.dropLast⟩
def stepB (w : Wb) : Deed → Wb
  | .back => bkB w
  | .again => agB w
  | d => ⟨goB w.b d, w.P ++ [⟨wordB d, w.b, goB w.b d⟩], []⟩
end Lt
namespace Lt
open PySem PySem.Spec PyProof.Rows L2 Evl
open SX (S)
variable [ZI]
theorem zIx_lk [ZI] {ds : List Dt} {d : Dt} {i : Int} {R : DQ} (k : Nat) (h : ds[k]? = some d) (q : R false d) (e : i = (k : Int) := by rfl) : zIx (.lst ds) (.int i) R := zIx_l (k := k) (List.getElem?_eq_some_iff.mp h).1 (.inl e) fun d' hd => by
  rw [h] at hd
  cases hd
  exact q
theorem cutE_by {tp : PTE} {s : PSt} {Q : PQ} (R : Bool → Dt → PSt → Prop) (h : tp s R) (w : ∀ b d s', R b d s' → Q b d s') : pCutE tp s Q := ⟨R, h, w⟩
theorem toPs_l : ∀ ds : List Dt, toPs ds = ds.map toP
  | [] => rfl
  | d :: ds => by rw [toPs, toPs_l ds]; rfl
theorem alk_lstD {n : Nat} {ds : List Dt} (hl : ds.length ≤ 100000) (h : ∀ d ∈ ds, alk n (toP d) = true) : alk (n + 1) (toP (.lst ds)) = true := by
  show (decide ((toPs ds).length ≤ 100000) && (toPs ds).all (alk n)) = true
  rw [toPs_l, List.length_map, decide_eq_true hl, Bool.true_and, List.all_map, List.all_eq_true]
  exact h
end Lt
namespace Lt
open PySem PySem.Spec PyProof.Rows L2 Evl LamX
open SX (S)
section
local instance (priority := 10) ziW : ZI := ziF
end
end Lt
namespace PyProof.Rows
open PySem
end PyProof.Rows
namespace Lt
open PySem PySem.Spec PyProof.Rows L2 Evl
theorem sum_leK {α : Type} {f : α → Nat} {k : Nat} : ∀ {l : List α}, (∀ x ∈ l, f x ≤ k) → (l.map f).sum ≤ k * l.length
  | [], _ => Nat.le_refl _
  | x :: l, h => by
    have h1 := h x (List.mem_cons_self ..)
    have h2 := sum_leK (l := l) fun y hy => h y (List.mem_cons_of_mem _ hy)
    rw [List.map_cons, List.sum_cons, List.length_cons, Nat.mul_succ]
    omega
end Lt
namespace Lt
open PySem PySem.Spec PyProof.Rows L2 Evl
def goods : List Deed := [.grow 97 false, .pin [98], .back, .again]
structure LenW (n : Nat) (w : Wb) : Prop where
  b : w.b.row.length ≤ n
  P : ∀ e ∈ w.P, e.a.row.length ≤ n ∧ e.b.row.length ≤ n
  U : ∀ e ∈ w.U, e.a.row.length ≤ n ∧ e.b.row.length ≤ n
theorem LenW.mono {m n : Nat} {w : Wb} (h : LenW m w) (l : m ≤ n) : LenW n w :=
  ⟨Nat.le_trans h.b l, fun e he => ⟨Nat.le_trans (h.P e he).1 l, Nat.le_trans (h.P e he).2 l⟩, fun e he => ⟨Nat.le_trans (h.U e he).1 l, Nat.le_trans (h.U e he).2 l⟩⟩
theorem LenW.step {n : Nat} {w : Wb} {d : Deed} (h : LenW n w) (hd : d ∈ goods) : LenW (n + 1) (stepB w d) := by
  simp only [goods, List.mem_cons, List.not_mem_nil, or_false] at hd
  rcases hd with rfl | rfl | rfl | rfl
  · have e : (w.b.row ++ [97]).length ≤ n + 1 := by rw [List.length_append]; exact Nat.succ_le_succ h.b
    refine ⟨e, fun x hx => ?_, fun x hx => by cases hx⟩
    rcases List.mem_append.mp hx with hx | hx
    · exact ⟨Nat.le_succ_of_le (h.P x hx).1, Nat.le_succ_of_le (h.P x hx).2⟩
    · rw [List.mem_singleton.mp hx]
      exact ⟨Nat.le_succ_of_le h.b, e⟩
  · refine ⟨Nat.le_succ_of_le h.b, fun x hx => ?_, fun x hx => by cases hx⟩
    rcases List.mem_append.mp hx with hx | hx
    · exact ⟨Nat.le_succ_of_le (h.P x hx).1, Nat.le_succ_of_le (h.P x hx).2⟩
    · rw [List.mem_singleton.mp hx]
      exact ⟨Nat.le_succ_of_le h.b, Nat.le_succ_of_le h.b⟩
  · refine LenW.mono (?_ : LenW n (bkB w)) (Nat.le_succ n)
    unfold bkB
    cases hl : w.P.getLast? with
    | none => exact h
    | some e =>
      have he := h.P e (List.mem_of_getLast? hl)
      refine ⟨he.1, fun x hx => h.P x (List.dropLast_subset _ hx), fun x hx => ?_⟩
      rcases List.mem_append.mp hx with hx | hx
      · exact h.U x hx
      · rw [List.mem_singleton.mp hx]; exact he
  · refine LenW.mono (?_ : LenW n (agB w)) (Nat.le_succ n)
    unfold agB
    cases hl : w.U.getLast? with
    | none => exact h
    | some e =>
      have he := h.U e (List.mem_of_getLast? hl)
      refine ⟨he.2, fun x hx => ?_, fun x hx => h.U x (List.dropLast_subset _ hx)⟩
      rcases List.mem_append.mp hx with hx | hx
      · exact h.P x hx
      · rw [List.mem_singleton.mp hx]; exact he
end Lt
namespace Lt
open PySem PySem.Spec PyProof.Rows L2 Evl
def flt : Dt → V
  | .non => .non
  | .int i => .int i
  | .str l => Tx l
  | _ => .non
end Lt
namespace Lt
open PySem PySem.Spec PyProof.Rows L2 Evl
theorem join_split (c : Nat) : ∀ l : List Nat, TL.joinL [c] (splitM c l) = l
  | [] => rfl
  | x :: l => by
    have ih := join_split c l
    unfold splitM
    split
    · rename_i h
      subst h
      cases hs : splitM x l with
      | nil => exact absurd hs (@splitM_ne ziE x l)
      | cons p ps =>
        rw [hs] at ih
        show [] ++ ([x] ++ TL.joinL [x] (p :: ps)) = _
        rw [ih]; rfl
    · cases hs : splitM c l with
      | nil => exact absurd hs (@splitM_ne ziE c l)
      | cons p ps =>
        rw [hs] at ih
        cases ps with
        | nil =>
          show x :: p = x :: l
          rw [show p = l from ih]
        | cons q qs =>
          show (x :: p) ++ ([c] ++ TL.joinL [c] (q :: qs)) = _
          have ih : p ++ ([c] ++ TL.joinL [c] (q :: qs)) = l := ih
          rw [List.cons_append, ih]
end Lt
namespace Lt
open PySem PySem.Spec PyProof.Rows L2 Evl
/-- rows written with bars -/
def lotT (rs : List (List Nat)) : List Nat := 124 :: rs.flatMap (· ++ [124])
def RsOk (rs : List (List Nat)) : Prop := ∀ r ∈ rs, r ≠ [] ∧ ∀ c ∈ r, c ∈ abcS
structure LotOk (l : List Nat) : Prop where
  len : l.length ≤ 40
  hd : l.head? = some 124
  lt : l.getLast? = some 124
  two : l ≠ [124]
  ch : ∀ c ∈ l, c = 124 ∨ c ∈ abcS
  ap : [124, 124] ∉ adjM l
theorem bar_abc : 124 ∉ abcS := by decide
theorem pairM_bar {a b : Nat} : pairM a b = [124, 124] ↔ a = 124 ∧ b = 124 := by
  unfold pairM
  split <;> simp <;> omega
theorem adj_free {r : List Nat} (h : 124 ∉ r) (x : Nat) : [124, 124] ∉ adjM (r ++ [x]) := by
  induction r with
  | nil => intro m; cases m
  | cons a r ih =>
    intro m
    have ha : a ≠ 124 := fun e => h (e ▸ List.mem_cons_self ..)
    have ih := ih (fun z => h (List.mem_cons_of_mem _ z))
    cases r with
    | nil =>
      rw [show ([a] : List Nat) ++ [x] = a :: x :: [] from rfl, @adjM_cons ziE] at m
      rcases List.mem_cons.mp m with m | m
      · exact ha (pairM_bar.mp m.symm).1
      · cases m
    | cons b r =>
      rw [show (a :: b :: r) ++ [x] = a :: b :: (r ++ [x]) from rfl, @adjM_cons ziE] at m
      rcases List.mem_cons.mp m with m | m
      · exact ha (pairM_bar.mp m.symm).1
      · exact ih m
theorem lotT_cons (r : List Nat) (rs : List (List Nat)) : lotT (r :: rs) = 124 :: (r ++ lotT rs) := by
  unfold lotT
  rw [List.flatMap_cons, List.append_assoc]
  rfl
theorem adj_lot : ∀ {rs : List (List Nat)}, RsOk rs → [124, 124] ∉ adjM (lotT rs)
  | [], _ => by intro m; cases m
  | r :: rs, h => by
    have hr := h r (List.mem_cons_self ..)
    have ih := adj_lot (rs := rs) fun x hx => h x (List.mem_cons_of_mem _ hx)
    have hb : 124 ∉ r := fun z => bar_abc (hr.2 _ z)
    rw [lotT_cons]
    obtain ⟨a, t, rfl⟩ : ∃ a t, r = a :: t := by
      cases r with
      | nil => exact absurd rfl hr.1
      | cons a t => exact ⟨a, t, rfl⟩
    have ha : a ≠ 124 := fun e => hb (e ▸ List.mem_cons_self ..)
    rw [show (124 : Nat) :: (a :: t ++ lotT rs) = 124 :: a :: (t ++ lotT rs) from rfl, @adjM_cons ziE]
    intro m
    rcases List.mem_cons.mp m with m | m
    · exact ha (pairM_bar.mp m.symm).2
    · rw [show lotT rs = 124 :: rs.flatMap (· ++ [124]) from rfl, show a :: (t ++ 124 :: rs.flatMap (· ++ [124])) = (a :: t) ++ 124 :: rs.flatMap (· ++ [124]) from rfl, @adjM_app ziE] at m
      rcases List.mem_append.mp m with m | m
      · exact adj_free hb 124 m
      · exact ih m
theorem lot_last : ∀ rs : List (List Nat), (lotT rs).getLast? = some 124
  | [] => rfl
  | r :: rs => by
    rw [lotT_cons, show (124 : Nat) :: (r ++ lotT rs) = (124 :: r) ++ lotT rs from rfl, List.getLast?_append, lot_last rs]
    rfl
theorem lot_mem : ∀ {rs : List (List Nat)} {c : Nat}, c ∈ lotT rs ↔ c = 124 ∨ ∃ r ∈ rs, c ∈ r
  | [], c => by simp [lotT]
  | r :: rs, c => by
    rw [lotT_cons, List.mem_cons, List.mem_append, lot_mem]
    simp only [List.mem_cons]
    constructor
    · rintro (h | h | h | ⟨q, hq, h⟩)
      · exact .inl h
      · exact .inr ⟨r, .inl rfl, h⟩
      · exact .inl h
      · exact .inr ⟨q, .inr hq, h⟩
    · rintro (h | ⟨q, rfl | hq, h⟩)
      · exact .inl h
      · exact .inr (.inl h)
      · exact .inr (.inr (.inr ⟨q, hq, h⟩))
theorem lot_len (rs : List (List Nat)) : (lotT rs).length = 1 + (rs.map (·.length)).sum + rs.length := by
  induction rs with
  | nil => rfl
  | cons r rs ih =>
    rw [lotT_cons, List.length_cons, List.length_append, ih]
    simp only [List.map_cons, List.sum_cons, List.length_cons]
    omega
/-- a lot by its rows -/
theorem LotOk.of {rs : List (List Nat)} (h : RsOk rs) (h0 : rs ≠ []) (hl : (lotT rs).length ≤ 40) : LotOk (lotT rs) := by
  refine ⟨hl, rfl, lot_last rs, fun e => ?_, fun c hc => ?_, adj_lot h⟩
  · cases rs with
    | nil => exact h0 rfl
    | cons r rs =>
      rw [lotT_cons] at e
      have := congrArg List.length e
      rw [List.length_cons, List.length_append, lot_len] at this
      simp at this <;> omega
  · rcases lot_mem.mp hc with h1 | ⟨r, hr, h1⟩
    · exact .inl h1
    · exact .inr ((h r hr).2 c h1)
theorem bars_rows : ∀ (n : Nat) (l : List Nat), l.length ≤ n → (124 :: l).getLast? = some 124 → (∀ c ∈ l, c = 124 ∨ c ∈ abcS) → [124, 124] ∉ adjM (124 :: l) → ∃ rs, RsOk rs ∧ 124 :: l = lotT rs
  | _, [], _, _, _, _ => ⟨[], fun r hr => (by cases hr), rfl⟩
  | 0, _ :: _, h, _, _, _ => by simp at h
  | n + 1, a :: t, hn, hl, hc, hp => by
    have ha : a ≠ 124 := fun e => hp (by rw [@adjM_cons ziE, e]; exact List.mem_cons_self ..)
    have key : ∀ u : List Nat, u.getLast? = some 124 → ∃ r m, u = r ++ 124 :: m ∧ 124 ∉ r := by
      intro u
      induction u with
      | nil => intro h; cases h
      | cons x u ih =>
        intro h
        by_cases hx : x = 124
        · exact ⟨[], u, by rw [hx]; rfl, by simp⟩
        · cases u with
          | nil =>
            rw [List.getLast?_singleton] at h
            exact absurd (Option.some.inj h) hx
          | cons y u =>
            obtain ⟨r, m, e, h1⟩ := ih (by rw [List.getLast?_cons_cons] at h; exact h)
            exact ⟨x :: r, m, by rw [e]; rfl, by simp [h1]; exact fun z => hx z.symm⟩
    have hl2 : (a :: t).getLast? = some 124 := by rw [List.getLast?_cons_cons] at hl; exact hl
    obtain ⟨r, m, e, h1⟩ := key (a :: t) hl2
    have hr0 : r ≠ [] := by
      intro z
      subst z
      injection e with e _
      exact ha e
    have hlm : m.length ≤ n := by
      have := congrArg List.length e
      have h3 : 0 < r.length := List.length_pos_iff.mpr hr0
      simp only [List.length_append, List.length_cons] at this hn
      omega
    rw [e] at hl hc hp hl2
    have hp2 : [124, 124] ∉ adjM (124 :: m) := fun z => hp (by
      rw [show (124 : Nat) :: (r ++ 124 :: m) = (124 :: r) ++ 124 :: m from rfl, @adjM_app ziE]
      exact List.mem_append_right _ z)
    have hl3 : (124 :: m).getLast? = some 124 := by
      rw [List.getLast?_append] at hl2
      cases h : (124 :: m).getLast? with
      | none => simp at h
      | some x => rw [h] at hl2; exact hl2
    obtain ⟨rs, h2, h3⟩ := bars_rows n m hlm hl3 (fun c h => hc c (List.mem_append_right _ (List.mem_cons_of_mem _ h))) hp2
    refine ⟨r :: rs, fun q hq => ?_, by rw [e, lotT_cons, ← h3]⟩
    rcases List.mem_cons.mp hq with rfl | hq
    · exact ⟨hr0, fun c hcr => (hc c (List.mem_append_left _ hcr)).resolve_left fun z => h1 (z ▸ hcr)⟩
    · exact h2 q hq
theorem LotOk.rows {l : List Nat} (h : LotOk l) : ∃ rs, RsOk rs ∧ rs ≠ [] ∧ l = lotT rs := by
  obtain ⟨h1, h2, h3, h4, h5, h6⟩ := h
  cases l with
  | nil => cases h2
  | cons x l =>
    obtain rfl : x = 124 := Option.some.inj h2
    obtain ⟨rs, g1, g2⟩ := bars_rows l.length l (Nat.le_refl _) h3 (fun c hc => h5 c (List.mem_cons_of_mem _ hc)) h6
    refine ⟨rs, g1, fun z => ?_, g2⟩
    subst z
    exact h4 g2
theorem split_lot {rs : List (List Nat)} (h : RsOk rs) : splitM 124 (lotT rs) = [] :: (rs ++ [[]]) := by
  have key : ∀ rs : List (List Nat), RsOk rs → splitM 124 (rs.flatMap (· ++ [124])) = rs ++ [[]] := by
    intro rs
    induction rs with
    | nil => intro _; rfl
    | cons r rs ih =>
      intro h
      rw [List.flatMap_cons, List.append_assoc]
      rw [show r ++ ([124] ++ rs.flatMap (· ++ [124])) = r ++ 124 :: rs.flatMap (· ++ [124]) from rfl]
      rw [@splitM_cat ziE 124 r _ fun z => bar_abc ((h r (List.mem_cons_self ..)).2 _ z), ih fun x hx => h x (List.mem_cons_of_mem _ hx)]
      rfl
  unfold lotT
  show (if (124 : Nat) = 124 then [] :: splitM 124 (rs.flatMap (· ++ [124])) else _) = _
  rw [if_pos rfl, key rs h]
/-- a turn keeps a lot a lot -/
theorem LotOk.turn {l : List Nat} (ho : LotOk l) {h t : Nat} (hm : (h, t) ∈ turnsM l []) : LotOk (turnM l h t) := by
  obtain ⟨h1, h2, _, _⟩ := turnsM_mem hm
  dsimp only at h1 h2
  have hl : (turnM l h t).length = l.length := turnM_len (by omega) h2
  obtain ⟨e1, e2⟩ := @turn_ends ziE _ _ _ _ hm
  have hp := @adjM_turn ziE _ _ _ _ hm
  have hlen : 2 ≤ l.length := by
    have h3 := ho.two
    have h4 := ho.hd
    match l, h3, h4 with
    | [], _, h4 => cases h4
    | [x], h3, h4 => exact absurd (by rw [show x = 124 from Option.some.inj h4]) h3
    | _ :: _ :: _, _, _ => simp
  refine ⟨by rw [hl]; exact ho.len, ?_, ?_, fun e => ?_, fun c hc => ?_, fun z => ho.ap (hp.mem_iff.mp z)⟩
  · rw [List.head?_eq_getElem?, e1, ← List.head?_eq_getElem?]; exact ho.hd
  · rw [List.getLast?_eq_getElem?, hl, e2, ← List.getLast?_eq_getElem?]; exact ho.lt
  · rw [e] at hl
    simp at hl
    omega
  · refine ho.ch c ?_
    unfold turnM at hc
    simp only [List.mem_append, List.mem_reverse] at hc
    rcases hc with (hc | hc) | hc
    · exact List.mem_of_mem_take hc
    · exact List.mem_of_mem_drop (List.mem_of_mem_take hc)
    · exact List.mem_of_mem_drop hc
theorem LotOk.okT {l : List Nat} (h : LotOk l) : okT l := fun c hc => (h.ch c hc).elim (fun e => by rw [e]; decide) fun e => abc_lt e
theorem bar_adj {l : List Nat} : [124, 124] ∈ adjM l ↔ ∃ i : Nat, l[i]? = some 124 ∧ l[i + 1]? = some 124 := by
  unfold adjM
  constructor
  · intro m
    obtain ⟨q, hq, e⟩ := List.mem_map.mp m
    obtain ⟨i, hi⟩ := List.mem_iff_getElem?.mp hq
    obtain ⟨h1, h2⟩ := List.getElem?_zip_eq_some.mp hi
    rw [List.getElem?_tail] at h2
    obtain ⟨a1, a2⟩ := pairM_bar.mp e
    exact ⟨i, by rw [h1, a1], by rw [h2, a2]⟩
  · rintro ⟨i, h1, h2⟩
    exact List.mem_map.mpr ⟨(124, 124), List.mem_iff_getElem?.mpr ⟨i, List.getElem?_zip_eq_some.mpr ⟨h1, by rw [List.getElem?_tail]; exact h2⟩⟩, rfl⟩
/-- a place that parts a text from a lot -/
def badLt (l : List Nat) (j : Nat) : Bool := decide (j = 40) || (decide (0 < j) && decide (l.getD j 0 = 124) && decide (l.getD (j - 1) 0 = 124)) || (!decide (l.getD j 0 = 124) && !decide (l.getD j 0 ∈ abcS))
def lotP (l : List Nat) : Option Nat := if l.take 1 ≠ [124] then some 0 else match (List.range l.length).find? (badLt l) with
  | some j => some j
  | none => if l = [124] ∨ l.getLast? ≠ some 124 then some l.length else none
def lotX : Dt → Option Nat
  | .str l => lotP l
  | _ => some 0
theorem getD_some {l : List Nat} {i : Nat} (h : i < l.length) : l[i]? = some (l.getD i 0) := by
  rw [List.getD_eq_getElem?_getD, List.getElem?_eq_getElem h]
  rfl
theorem lot_bad {l : List Nat} (h : LotOk l) : (List.range l.length).find? (badLt l) = none := by
  rw [List.find?_eq_none]
  intro j hj
  rw [List.mem_range] at hj
  have h40 : j ≠ 40 := by have := h.len; omega
  have hc := h.ch (l.getD j 0) (List.mem_of_getElem? (getD_some hj))
  have ha : ¬ (0 < j ∧ l.getD j 0 = 124 ∧ l.getD (j - 1) 0 = 124) := fun ⟨z1, z2, z3⟩ => h.ap (bar_adj.mpr ⟨j - 1, by rw [getD_some (by omega), z3], by rw [show j - 1 + 1 = j by omega, getD_some hj, z2]⟩)
  unfold badLt
  rw [decide_eq_false h40, Bool.false_or]
  intro z
  rw [Bool.or_eq_true] at z
  rcases z with z | z
  · simp only [Bool.and_eq_true, decide_eq_true_eq] at z
    exact ha ⟨z.1.1, z.1.2, z.2⟩
  · simp only [Bool.and_eq_true, Bool.not_eq_true', decide_eq_false_iff_not] at z
    exact hc.elim z.1 z.2
theorem LotOk.tk {l : List Nat} (h : LotOk l) : l.take 1 = [124] := by
  have := h.hd
  cases l with
  | nil => cases this
  | cons x l => rw [show x = 124 from Option.some.inj this]; rfl
theorem lotP_ok {l : List Nat} (h : LotOk l) : lotP l = none := by
  unfold lotP
  rw [if_neg (by rw [h.tk]; simp), lot_bad h]
  dsimp only
  rw [if_neg (by rintro (z | z); exact h.two z; exact z h.lt)]
theorem lot_good {l : List Nat} (h1 : l.take 1 = [124]) (h2 : (List.range l.length).find? (badLt l) = none) (h3 : l ≠ [124]) (h4 : l.getLast? = some 124) : LotOk l := by
  rw [List.find?_eq_none] at h2
  have key : ∀ j, j < l.length → j ≠ 40 ∧ ¬ (0 < j ∧ l.getD j 0 = 124 ∧ l.getD (j - 1) 0 = 124) ∧ (l.getD j 0 = 124 ∨ l.getD j 0 ∈ abcS) := fun j hj => by
    have := h2 j (List.mem_range.mpr hj)
    unfold badLt at this
    simp only [Bool.or_eq_true, decide_eq_true_eq, Bool.and_eq_true, Bool.not_eq_true', decide_eq_false_iff_not, not_or, not_and, Classical.not_not] at this
    refine ⟨this.1.1, fun ⟨z1, z2, z3⟩ => this.1.2 ⟨z1, z2⟩ z3, ?_⟩
    by_cases c : l.getD j 0 = 124
    · exact .inl c
    · exact .inr (this.2 c)
  refine ⟨?_, ?_, h4, h3, fun c hc => ?_, fun z => ?_⟩
  · by_cases hl : l.length ≤ 40
    · exact hl
    · exact absurd rfl (key 40 (by omega)).1
  · cases l with
    | nil => cases h1
    | cons x l => injection h1 with h1; rw [h1]; rfl
  · obtain ⟨i, hi, e⟩ := List.mem_iff_getElem.mp hc
    have h5 := (key i hi).2.2
    rw [List.getD_eq_getElem?_getD, List.getElem?_eq_getElem hi] at h5
    rwa [← e]
  · obtain ⟨i, a1, a2⟩ := bar_adj.mp z
    have hi := (List.getElem?_eq_some_iff.mp a2).1
    refine (key (i + 1) hi).2.1 ⟨by omega, ?_, ?_⟩
    · rw [List.getD_eq_getElem?_getD, a2]; rfl
    · rw [List.getD_eq_getElem?_getD, show i + 1 - 1 = i by omega, a1]; rfl
/-- a lot of what is handed, or it is refused -/
def LotX (d : Dt) (X : XQ) (k : List Nat → Prop) : Prop := argOk d ∧ (∀ p : Nat, lotX d = some p → X ⟨"BadLot", [("place", .int (p : Int))]⟩) ∧ ∀ l, d = .str l → LotOk l → k l
theorem LotX.good {l : List Nat} {X : XQ} {k : List Nat → Prop} (h : LotOk l) (hk : k l) : LotX (.str l) X k := by
  refine ⟨⟨by have := h.len; omega, h.okT⟩, fun p e => ?_, fun r e _ => ?_⟩
  · rw [show lotX (.str l) = lotP l from rfl, lotP_ok h] at e
    cases e
  · cases e
    exact hk
theorem lot_in : ∀ {rs : List (List Nat)}, rs ≠ [] → lotT rs = 124 :: (TL.joinL [124] rs ++ [124])
  | [r], _ => by
    rw [lotT_cons]
    rfl
  | r :: q :: rs, _ => by
    rw [lotT_cons, lot_in (rs := q :: rs) (by simp)]
    show 124 :: (r ++ 124 :: (TL.joinL [124] (q :: rs) ++ [124])) = 124 :: ((r ++ ([124] ++ TL.joinL [124] (q :: rs))) ++ [124])
    simp
theorem rows_few {rs : List (List Nat)} (h : RsOk rs) (hl : (lotT rs).length ≤ 1000) : rs.length ≤ 1000 ∧ (∀ r ∈ rs, r.length ≤ 1000) ∧ (rs.map (·.length)).sum ≤ 1000 := by
  rw [lot_len] at hl
  refine ⟨by omega, fun r hr => ?_, by omega⟩
  have : r.length ≤ (rs.map (·.length)).sum := by
    clear hl h
    induction rs with
    | nil => cases hr
    | cons x rs ih =>
      rw [List.map_cons, List.sum_cons]
      rcases List.mem_cons.mp hr with rfl | hr
      · omega
      · have := ih hr; omega
  omega
theorem ends_len (rs : List (List Nat)) : (rs.flatMap fun r => [r.headD 0, r.getLastD 0]).length = 2 * rs.length := by
  induction rs with
  | nil => rfl
  | cons r rs ih => rw [List.flatMap_cons, List.length_append, ih, List.length_cons]; simp; omega
theorem lotT_snoc (rs : List (List Nat)) (r : List Nat) : lotT (rs ++ [r]) = lotT rs ++ r ++ [124] := by
  unfold lotT
  rw [List.flatMap_append]
  simp
theorem lotT_okT {rs : List (List Nat)} (h : RsOk rs) : okT (lotT rs) := fun c hc => by
  rcases lot_mem.mp hc with rfl | ⟨r, hr, hc⟩
  · decide
  · exact abc_lt ((h r hr).2 c hc)
theorem hd_atL {r : List Nat} {c : Nat} (h : r[0]? = some c) : r.headD 0 = c := by
  cases r with
  | nil => cases h
  | cons x r => exact Option.some.inj h
theorem last_at {r : List Nat} {c : Nat} (h : r[r.length - 1]? = some c) : r.getLastD 0 = c := by
  rw [List.getLastD_eq_getLast?, List.getLast?_eq_getElem?, h]
  rfl
theorem ends_in_abc {rs : List (List Nat)} (h : RsOk rs) : ∀ c ∈ rs.flatMap fun r => [r.headD 0, r.getLastD 0], c ∈ abcS := fun c hc => by
  obtain ⟨r, hr, hc⟩ := List.mem_flatMap.mp hc
  obtain ⟨h0, h1⟩ := h r hr
  simp only [List.mem_cons, List.not_mem_nil, or_false] at hc
  rcases hc with rfl | rfl
  · cases r with
    | nil => exact absurd rfl h0
    | cons x r => exact h1 x (List.mem_cons_self ..)
  · refine h1 _ ?_
    rw [List.getLastD_eq_getLast?]
    cases hl : r.getLast? with
    | none => exact absurd (List.getLast?_eq_none_iff.mp hl) h0
    | some x => exact List.mem_of_getLast? hl
theorem ends_okT {rs : List (List Nat)} (h : RsOk rs) : okT (rs.flatMap fun r => [r.headD 0, r.getLastD 0]) := fun c hc => abc_lt (ends_in_abc h c hc)
theorem lot_flt {rs : List (List Nat)} (h : RsOk rs) : ([] :: (rs ++ [[]])).filter (fun r => !decide (r = [])) = rs := by
  rw [List.filter_cons_of_neg (by simp), List.filter_append, List.filter_cons_of_neg (by simp), List.filter_nil, List.append_nil]
  exact List.filter_eq_self.mpr fun r hr => by simp [(h r hr).1]
theorem sortN_perm {l m : List Nat} (h : l.Perm m) : sortN l = sortN m := by
  have e := @sortT_perm ziE _ _ (h.map fun c => [c])
  rw [@sortT_signs ziE, @sortT_signs ziE] at e
  exact (List.map_inj_right fun a b z => by injection z).mp e
theorem ends_perm : ∀ rs : List (List Nat), (rs.map (fun r => r.headD 0) ++ rs.map (fun r => r.getLastD 0)).Perm (rs.flatMap fun r => [r.headD 0, r.getLastD 0])
  | [] => .nil
  | r :: rs => by
    rw [List.map_cons, List.map_cons, List.flatMap_cons]
    show (r.headD 0 :: (rs.map (fun r => r.headD 0) ++ r.getLastD 0 :: rs.map (fun r => r.getLastD 0))).Perm (r.headD 0 :: r.getLastD 0 :: _)
    refine .cons _ (List.perm_middle.trans (.cons _ (ends_perm rs)))
/-- the name of a lot: its rows by their first way about, rising -/
def nameLot (rs : List (List Nat)) : List (List Nat) := sortT (rs.map nameM)
/-- first and last signs of all rows, rising -/
def endsLot (rs : List (List Nat)) : List Nat := sortN (rs.flatMap fun r => [r.headD 0, r.getLastD 0])
/-- what parts two lots -/
def partLot (rs qs : List (List Nat)) : Dt := if endsLot rs = endsLot qs then (match fapD (adjM (lotT rs)) (adjM (lotT qs)) with
    | .tup es => .tup (.str [112, 97, 105, 114] :: es)
    | _ => .non) else .tup [.str [101, 110, 100, 115], .str (endsLot rs), .str (endsLot qs)]
end Lt
namespace Lt
open PySem PySem.Spec PyProof.Rows L2 Evl LamX
open SX (S)
local macro_rules | `(tactic| walk_at "sz") => `(tactic| first | omega | assumption | (simp only [sizeLine_eq, List.length_append, List.length_map, List.length_cons, List.length_nil, List.length_reverse, List.length_set, List.length_eraseIdx, List.length_take, List.length_drop]; omega) | (rw [sizeLine_eq]; simp; omega) | (simp; omega) | (simp; done))
local macro_rules | `(tactic| walk_at "lift") => `(tactic| first | assumption | exact upd_same | (refine (show Ex _ _ by assumption) _ _ ?_; walk_at "lift") | (refine (show ExB _ _ _ by assumption) _ _ (by first | assumption | (apply Ne.symm; assumption)) ?_; walk_at "lift"))
local macro_rules | `(tactic| walk_at "liftR") => `(tactic| first | assumption | exact Or.inl upd_same | (refine Or.inl ?_; walk_at "lift") | (refine Or.inr ⟨_, ?_⟩; walk_at "lift") | (refine Rd.ex ?_ (show Ex _ _ by assumption); walk_at "liftR"))
local macro_rules | `(tactic| walk_at "ixd") => `(tactic| (intro v hv; first | (simp at hv; subst hv) | (simp at hv; obtain ⟨_, _, rfl⟩ := hv) | skip))
local macro_rules | `(tactic| walk_at "s1") => `(tactic| first | ((with_reducible refine w_var (v := ?vv) ?hx ?hk); (case hx => exact rfl)) | ((with_reducible refine w_aug (x := ?vv) ?hx ?hk); (case hx => exact rfl)) | with_reducible first
  | refine w_nx ?_ | refine w_rt ?_ | refine w_bk ?_ | refine w_ct ?_
  | refine w_seq ?_ | refine w_next ?_ | refine w_asg ?_ | refine w_name ?_ | refine w_ret ?_ | refine w_retN ?_ | refine w_drop ?_ | refine w_ifS ?_ | refine w_break ?_ | refine w_cont ?_
  | refine w_c ?_ | refine w_op ?_ | refine w_un ?_ | refine w_neg ?_ | refine w_cb ?_ | refine w_callN ?_ | refine w_call ?_ | refine w_callK ?_ | refine w_kb1 ?_ | refine w_kb2 ?_ | refine w_kb3 ?_ | refine w_kd1 ?_ | refine w_itT ?_ | refine w_itF ?_ | refine w_itNT ?_ | refine w_itNF ?_ | refine w_kd2 ?_ | refine w_kd3 ?_ | refine w_cons ?_ | refine w_nil ?_ | refine w_if ?_ | refine w_sl ?_
  | refine w_part ?_ | refine w_intk ?_ | refine w_noPart ?_ | refine w_tup ?_ | refine w_lst ?_ | refine w_test ?_ | refine w_tB ?_ | refine w_blk ?_ | refine w_and ?_ | refine w_or ?_ | refine w_not ?_ | refine w_andV ?_ | refine w_orV ?_ | refine w_notV ?_ | refine w_chain ?_
  | refine w_par2 ?_ | refine w_par3 ?_ | refine w_two ?_ | refine w_three ?_ | refine w_gcons ?_ | refine w_gnil ?_ | refine w_gsub ?_ | refine w_bm ?_ | refine w_bm0 ?_
  | refine w_addI ?_ | refine w_I0 ?_ | refine w_ltI ?_ | refine w_gtI ?_ | refine w_leI ?_ | refine w_geI ?_ | refine w_eqI ?_ | refine w_neI ?_ | refine w_eqC ?_ | refine w_neC ?_ | refine w_ltC ?_ | refine w_gtC ?_ | refine w_leC ?_ | refine w_geC ?_ | refine w_eqT ?_ | refine w_neT ?_ | refine w_ltT ?_ | refine w_gtT ?_ | refine w_leT ?_ | refine w_geT ?_ | refine w_inS ?_ | refine w_notInS ?_)
local macro_rules | `(tactic| walk_at "cI") => `(tactic| first | omega | (exact ⟨by omega, by omega⟩) | (exact Or.inl ⟨by omega, by omega⟩) | (exact Or.inr ⟨by omega, by omega⟩) | (exact ⟨by omega, by omega, by omega⟩) | decide)
local macro_rules | `(tactic| walk_at "s2") => `(tactic| first
  | ((with_reducible refine w_lenX ?hl ?hk); (case hl => walk_at "sz"))
  | ((with_reducible refine w_lenL (xs := ?xs) ?hp ?hk); (case hp => walk_at "lift"))
  | ((with_reducible refine w_lenU (xs := ?xs) ?hp ?hk); (case hp => walk_at "liftR"))
  | ((with_reducible refine w_ixX ?hl ?h0 ?h1 ?hk); (case hl => walk_at "sz"); (case h0 => walk_at "sz"); (case h1 => walk_at "sz"); walk_at "ixd")
  | ((with_reducible refine w_ixL (xs := ?xs) ?hp ?h0 ?h1 ?hk); (case hp => walk_at "lift"); (case h0 => walk_at "sz"); (case h1 => walk_at "sz"); walk_at "ixd")
  | ((with_reducible refine w_ixU (xs := ?xs) ?hp ?h0 ?h1 ?hk); (case hp => walk_at "liftR"); (case h0 => walk_at "sz"); (case h1 => walk_at "sz"); walk_at "ixd")
  | ((with_reducible refine w_slX ?hl ?hk); (case hl => walk_at "sz"))
  | ((with_reducible refine w_revX ?hl))
  | ((with_reducible refine w_revX2 ?hl ?hk); (case hl => walk_at "sz"))
  | ((with_reducible refine w_slL (xs := ?xs) ?hp ?hk); (case hp => walk_at "lift"))
  | ((with_reducible refine w_slU (xs := ?xs) ?hp ?hk); (case hp => walk_at "lift"))
  | ((with_reducible refine w_addT ?hl ?hk); (case hl => walk_at "sz"))
  | ((with_reducible refine w_addL (xs := ?xs) (ys := ?ys) ?hp ?hq ?hl ?hk); (case hp => walk_at "lift"); (case hq => walk_at "lift"); (case hl => walk_at "sz"))
  | ((with_reducible refine w_addU (xs := ?xs) (ys := ?ys) ?hp ?hq ?hl ?hk); (case hp => walk_at "lift"); (case hq => walk_at "lift"); (case hl => walk_at "sz"))
  | ((with_reducible refine w_listX ?hl ?hk); (case hl => walk_at "sz"))
  | ((with_reducible refine w_listL (xs := ?xs) ?hp ?hk); (case hp => walk_at "lift"))
  | ((with_reducible refine w_listU (xs := ?xs) ?hp ?hk); (case hp => walk_at "liftR"))
  | ((with_reducible refine w_gtup (xs := ?xs) ?hp ?hn ?hk); (case hp => walk_at "liftR"); (case hn => rfl))
  | (with_reducible refine w_revL ?_) | ((with_reducible refine w_revLk (xs := ?xs) ?hp ?hk); (case hp => walk_at "lift"); intro p hp; generalize hG : upd _ p _ = H2; have e : Ex _ H2 := (by rw [← hG]; exact Ex.new hp); have h2 : H2 p = some _ := (by rw [← hG]; exact upd_same); clear hG)
  | (with_reducible refine w_for ?_) | (with_reducible refine w_iany ?_) | (with_reducible refine w_lc ?_) | (with_reducible refine w_anyX ?_)
  | ((with_reducible refine w_anyU (xs := ?xs) ?hp ?hk); (case hp => walk_at "liftR"))
  | ((with_reducible refine w_anyL (xs := ?xs) ?hp ?hk); (case hp => walk_at "lift"))
  | (with_reducible refine w_rng1 ?_) | ((with_reducible refine w_rng1k ?hp ?hk); (case hp => constructor <;> walk_at "sz"))
  | (with_reducible refine w_rng2 ?_) | ((with_reducible refine w_rng2k ?hp ?hk); (case hp => refine ⟨?_, ?_, ?_, ?_⟩ <;> walk_at "sz"))
  | (with_reducible refine w_enumX ?_) | (with_reducible refine w_enumXk ?_) | (with_reducible refine w_zipX ?_) | (with_reducible refine w_zipXk ?_)
  | (with_reducible refine w_enumL ?_) | ((with_reducible refine w_enumLk (xs := ?xs) ?hp ?hk); (case hp => walk_at "lift"))
  | (with_reducible refine w_zipL ?_) | ((with_reducible refine w_zipLk (xs := ?xs) (ys := ?ys) ?hp ?hq ?hk); (case hp => walk_at "lift"); (case hq => walk_at "lift"))
  | (with_reducible refine w_tyS ?_)
  | ((with_reducible refine w_join1 (l := ?l) ?hp ?hl ?hk); (case hp => walk_at "lift"); (case hl => walk_at "sz"))
  | (with_reducible refine w_isN ?_) | ((with_reducible refine w_isNx ?hx ?hk); (case hx => first | assumption | (intro q; cases q; done))) | (with_reducible refine w_notN ?_) | ((with_reducible refine w_notNx ?hx ?hk); (case hx => first | assumption | (intro q; cases q; done)))
  | (with_reducible refine w_neB1 ?_) | (with_reducible refine w_neB2 ?_) | (with_reducible refine w_neB3 ?_) | (with_reducible refine w_neB4 ?_) | (with_reducible refine w_eqB ?_) | (with_reducible refine w_eqStr ?_)
  | (with_reducible refine w_yes ?_) | (with_reducible refine w_int1 ?_)
  | ((with_reducible refine w_I ?hc ?hk); (case hc => walk_at "cI"))
  | ((with_reducible refine w_isLT (xs := ?xs) ?hp ?hn ?hb ?hk); (case hp => walk_at "lift"); (case hn => decide); (case hb => decide))
  | ((with_reducible refine w_isLF (xs := ?xs) ?hp ?hn ?hb ?hk); (case hp => walk_at "lift"); (case hn => decide); (case hb => decide))
  | ((with_reducible refine w_isUT (xs := ?xs) ?hp ?hn ?hb ?hk); (case hp => walk_at "liftR"); (case hn => decide); (case hb => decide))
  | ((with_reducible refine w_isUF (xs := ?xs) ?hp ?hn ?hb ?hk); (case hp => walk_at "liftR"); (case hn => decide); (case hb => decide))
  | ((with_reducible refine w_isT (t := ?t) ?ht ?hn ?hb ?hk); (case ht => first | exact Tg.non | exact Tg.bl _ | exact Tg.int _ | exact Tg.str _); (case hn => decide); (case hb => decide))
  | ((with_reducible refine w_isF (t := ?t) ?ht ?hn ?hb ?hk); (case ht => first | exact Tg.non | exact Tg.bl _ | exact Tg.int _ | exact Tg.str _); (case hn => decide); (case hb => decide))
  | ((with_reducible refine w_new ?hn ?hk); (case hn => walk_at "sz"); intro p H2 hp e h2)
  | ((with_reducible refine w_newN ?hk); intro p H2 hp e h2))
local macro_rules | `(tactic| walk_at "s3") => `(tactic| first
  | ((with_reducible refine w_tyL (xs := ?xs) ?hp ?hk); (case hp => walk_at "lift"))
  | ((with_reducible refine w_app (xs := ?xs) ?hp ?hl ?hk); (case hp => walk_at "lift"); (case hl => walk_at "sz"); intro H2 e h2)
  | ((with_reducible refine w_ext (xs := ?xs) (zs := ?zs) ?hp ?hq ?hl ?hk); (case hp => walk_at "lift"); (case hq => walk_at "lift"); (case hl => walk_at "sz"); intro H2 e h2)
  | ((with_reducible refine w_popAt (xs := ?xs) ?hp ?hk ?hs ?hh); (case hp => walk_at "lift"); (case hk => walk_at "sz"); (case hs => walk_at "sz"); intro H2 v hv e h2)
  | ((with_reducible refine w_setL (xs := ?xs) ?hp ?hk ?hs ?hh); (case hp => walk_at "lift"); (case hk => walk_at "sz"); (case hs => walk_at "sz"); intro H2 e h2))
local macro_rules | `(tactic| walk_at "st") => `(tactic| first | walk_at "s1" | walk_at "s2" | walk_at "s3")
local macro_rules | `(tactic| walk_at "gx") => `(tactic| repeat first | walk_at "s1" | walk_at "s2")
local macro_rules | `(tactic| walk_at "go") => `(tactic| repeat walk_at "st")
local macro_rules | `(tactic| walk_at "br") => `(tactic| first | (with_reducible refine w_iteD (fun hc => ?_) (fun hc => ?_)) | (with_reducible refine w_iteN (fun hc => ?_) (fun hc => ?_)) | (with_reducible refine w_iteB (fun hc => ?_) (fun hc => ?_)))
local macro_rules | `(tactic| walk_at "tt") => `(tactic| ((with_reducible refine w_iteT ?hc ?hk); (case hc => first | rfl | assumption | (simp; done) | (simp; omega) | (simp_all; done))))
local macro_rules | `(tactic| walk_at "ff") => `(tactic| ((with_reducible refine w_iteF ?hc ?hk); (case hc => first | rfl | assumption | (simp; done) | (simp; omega) | (simp_all; done))))
local macro_rules | `(tactic| walk_at "zs") => `(tactic| simp only [zStr_s, zTupW_l, zListV_d, zListD_d, zIx_k, zSplitS_s, zInT_s, zNotInT_s, zMulZ_i, zMulZ_s, zIntT_i, zIntT_t, zIntT_f, repT_0, repT_1, zInAdd_i, zInSub_i, zStw_s, zEnw_s, zMax_i, zAdd_i, zAdd_s, zAdd_l, zAdd_t, zIpAdd_i, zIpAdd_s, zIpSub_i, zSub_i, zMul_i, zMod_i, zDiv_i, zPow_i, zNeg_i, zLt_c, zGt_c, zLe_c, zGe_c, zLt_i, zGt_i, zLe_i, zGe_i, zEq_i, zNe_i, zEq_c, zNe_c, zEq_b, zNe_b, zEq_nil, zNe_nil, zEq_nilT, zNe_nilT, zIn_s, zNotIn_s, zIsN_n, zNotN_n, zIsN_i, zIsN_s, zIsN_b, zIsN_t, zIsN_l, zNotN_i, zNotN_s, zNotN_b, zNotN_t, zNotN_l, zLen_s, zLen_l, zLen_t, zAbs_i, zList_s, zList_l, zList_t, zTup_l, zTup_t, zTup_k, zLen_k, zList_k, zIsN_k, zNotN_k, zSl_k, zIs_k, zAdd_k, zSetS_s, zSetS_l, zSetS_t, zSetS_t2, zCnt_t, zSortA_t, zSortA_k, zSortA_t2, zSortA_s, isDic_d, zDGk_d, zDInk_d, zDInk_n, zSrtDk_d, zDGet_d, zDPut_d, zRev_s, zRevL_l, zMin_i, zMin_s, zSl_s, zSl_l, zSl_t, zIs_s, zIs_i, zIs_b, zIs_n, zIs_l, zIs_t, isi_ss, isi_st, isi_sl, isi_si, isi_sb, isi_is, isi_it, isi_il, isi_ii, isi_ib, isi_bs, isi_bt, isi_bl, isi_bi, isi_bb, isi_ns, isi_nt, isi_nl, isi_ni, isi_nb, isi_ts, isi_tt, isi_tl, isi_ti, isi_tb, isi_ls, isi_lt, isi_ll, isi_li, isi_lb, ifT, ifF, if_true, if_false, Bool.false_eq_true, decide_true, decide_false, zIx_t0, zIx_t1, zIx_t2, true_and, Bool.not_true, Bool.not_false, pSl_f, pSl_o, pSl_k, mkS_t, mkS_f, List.set_cons_zero, List.set_cons_succ, List.getElem?_cons_zero, List.getElem?_cons_succ, wipeS, frzS, pStart, List.map_cons, List.map_nil, List.replicate_succ, List.replicate_zero, List.cons_append, List.nil_append, List.append_nil, List.length_cons, List.length_nil, List.isEmpty_nil, List.isEmpty_cons, Nat.zero_add, Nat.reduceAdd, Nat.reduceLeDiff, Int.toNat_natCast])
local macro_rules | `(tactic| walk_at "z") => `(tactic| ((with_reducible conv => whnf); repeat (walk_at "zs"; (with_reducible conv => whnf))))
local macro_rules | `(tactic| walk_at "sc") => `(tactic| first | walk_at "sz" | (refine ⟨?_, ?_⟩ <;> walk_at "sz") | (refine ⟨?_, ?_, ?_, ?_⟩ <;> walk_at "sz"))
local macro_rules | `(tactic| walk_at "zz") => `(tactic| (walk_at "z"; repeat ((refine And.intro (by walk_at "sc") ?_); walk_at "z")))
local macro_rules | `(tactic| walk_at "as") => `(tactic| ((with_reducible refine And.intro ?pre ?rest); (case pre => walk_at "sc")))
local macro_rules | `(tactic| walk_at "zr") => `(tactic| (walk_at "z"; repeat (walk_at "as"; walk_at "z")))
local macro_rules | `(tactic| walk_at "lc") => `(tactic| (with_reducible refine pLc_go ?_; walk_at "zz"))
local macro_rules | `(tactic| walk_at "lc2") => `(tactic| (with_reducible refine pLc2_go ?_; walk_at "zz"))
local macro_rules | `(tactic| walk_at "dc") => `(tactic| (with_reducible refine pDc_go ?_; walk_at "zz"))
local macro_rules | `(tactic| walk_at "fd") => `(tactic| (refine forD_go rfl ?_; dsimp only [Bool.false_eq_true, if_false, if_true]))
local macro_rules | `(tactic| walk_at "for") => `(tactic| (with_reducible refine pFor_go ?_; walk_at "zz"))
local macro_rules | `(tactic| walk_at "nes") => `(tactic| (refine Eq.mpr zNe_s ?_; walk_at "z"))
local macro_rules | `(tactic| walk_at "eqs") => `(tactic| (refine Eq.mpr zEq_s ?_; walk_at "z"))
local macro_rules | `(tactic| walk_at "pre") => `(tactic| first | assumption | omega | (refine (?_ : RowOk _).1; assumption) | (refine (?_ : RowOk _).2.1; assumption) | (refine (?_ : RowOk _).2.2; assumption) | (refine RowOk.ok ?_; assumption) | (refine Nat.le_trans (?_ : RowOk _).2.1 ?_; (first | assumption | decide); done) | ((refine Nat.le_trans (?_ : RowOk _).2.1 (by decide)); assumption) | exact List.nil_sublist _ | walk_at "sz" | decide)
local macro_rules | `(tactic| walk_at "an") => `(tactic| ((with_reducible refine And.intro ?pre ?rest); (case pre => walk_at "pre")))
local macro_rules | `(tactic| walk_at "cl") => `(tactic| ((repeat apply Exists.intro); refine And.intro (by first | rfl | exact (rfl : _ = _)) ?_; (repeat walk_at "an"); walk_at "zr"))
def top (i : Nat) : Stmt := PySem.Challenge.pw_liketurns_k54_lots_named_and_turned.main.body.getD i (.Pass ⟨0, 0, 0, 0⟩)
abbrev s_need_lot : Stmt := top 32
abbrev s_is_number : Stmt := top 22
abbrev s_why_not : Stmt := top 26
abbrev s_behind : Stmt := top 27
abbrev s_lot_turned : Stmt := top 36
abbrev s__law_dice : Stmt := top 40
abbrev s__law_off : Stmt := top 41
abbrev s__law_row : Stmt := top 42
abbrev s__law_lot : Stmt := top 43
abbrev s__law_mixed : Stmt := top 44
abbrev s__law_signs : Stmt := top 45
abbrev s__law_alike : Stmt := top 46
abbrev s__law_lot_name : Stmt := top 47
abbrev s_rows_in : Stmt := top 33
abbrev s_name_of_lot : Stmt := top 34
abbrev s_lot_name : Stmt := top 35
abbrev s__law_turns : Stmt := top 48
abbrev s__law_turned : Stmt := top 49
abbrev s__law_lot_ends : Stmt := top 50
abbrev s__law_first : Stmt := top 51
abbrev s__law_pairs : Stmt := top 52
abbrev s__law_lots_parted : Stmt := top 53
abbrev s_ends_in : Stmt := top 37
abbrev s_first_unlike : Stmt := top 29
abbrev s_pair_of : Stmt := top 23
abbrev s_pairs_of : Stmt := top 24
abbrev s_lots_parted : Stmt := top 38
abbrev s__law_why : Stmt := top 54
abbrev s__law_word_of : Stmt := top 55
abbrev s_law : Stmt := top 56
abbrev s_BadLot___init__ : Stmt := inClass (top 17) 0
abbrev s_BadTurn___init__ : Stmt := inClass (top 8) 0
structure Txt (K : PySem.W.Frag) (mg : Str → Option Value) : Prop where
  z_ValueError : mg "ValueError" = none
  z_abs : mg "abs" = none
  z_all : mg "all" = none
  z_bool : mg "bool" = none
  z_enumerate : mg "enumerate" = none
  z_int : mg "int" = none
  z_isinstance : mg "isinstance" = none
  z_len : mg "len" = none
  z_list : mg "list" = none
  z_min : mg "min" = none
  z_range : mg "range" = none
  z_sorted : mg "sorted" = none
  z_str : mg "str" = none
  z_tuple : mg "tuple" = none
  z_zip : mg "zip" = none
  c_BAR : ∃ u, mg "BAR" = some u ∧ RelV (Tx [124]) u
  c_MOST_SIGNS : ∃ u, mg "MOST_SIGNS" = some u ∧ RelV (.int 40) u
  c_SIGNS : ∃ u, mg "SIGNS" = some u ∧ RelV (Tx [97, 98, 99, 100, 101, 102, 103, 104]) u
  f_need_lot : ∃ (f : Addr) (fd : FuncData), mg "need_lot" = some (.ref f) ∧ FunD K "need_lot" "need_lot" (defArgs s_need_lot) (defBody s_need_lot) (defScope s_need_lot) [] [] f fd
  f_is_number : ∃ (f : Addr) (fd : FuncData), mg "is_number" = some (.ref f) ∧ FunD K "is_number" "is_number" (defArgs s_is_number) (defBody s_is_number) (defScope s_is_number) [] [] f fd
  f_why_not : ∃ (f : Addr) (fd : FuncData), mg "why_not" = some (.ref f) ∧ FunD K "why_not" "why_not" (defArgs s_why_not) (defBody s_why_not) (defScope s_why_not) [] [] f fd
  f_behind : ∃ (f : Addr) (fd : FuncData), mg "behind" = some (.ref f) ∧ FunD K "behind" "behind" (defArgs s_behind) (defBody s_behind) (defScope s_behind) [] [] f fd
  f_lot_turned : ∃ (f : Addr) (fd : FuncData), mg "lot_turned" = some (.ref f) ∧ FunD K "lot_turned" "lot_turned" (defArgs s_lot_turned) (defBody s_lot_turned) (defScope s_lot_turned) [] [] f fd
  f__law_dice : ∃ (f : Addr) (fd : FuncData), mg "_law_dice" = some (.ref f) ∧ FunD K "_law_dice" "_law_dice" (defArgs s__law_dice) (defBody s__law_dice) (defScope s__law_dice) [] [] f fd
  f__law_off : ∃ (f : Addr) (fd : FuncData), mg "_law_off" = some (.ref f) ∧ FunD K "_law_off" "_law_off" (defArgs s__law_off) (defBody s__law_off) (defScope s__law_off) [] [] f fd
  f__law_row : ∃ (f : Addr) (fd : FuncData), mg "_law_row" = some (.ref f) ∧ FunD K "_law_row" "_law_row" (defArgs s__law_row) (defBody s__law_row) (defScope s__law_row) [] [] f fd
  f__law_lot : ∃ (f : Addr) (fd : FuncData), mg "_law_lot" = some (.ref f) ∧ FunD K "_law_lot" "_law_lot" (defArgs s__law_lot) (defBody s__law_lot) (defScope s__law_lot) [] [] f fd
  f__law_mixed : ∃ (f : Addr) (fd : FuncData), mg "_law_mixed" = some (.ref f) ∧ FunD K "_law_mixed" "_law_mixed" (defArgs s__law_mixed) (defBody s__law_mixed) (defScope s__law_mixed) [] [] f fd
  f__law_signs : ∃ (f : Addr) (fd : FuncData), mg "_law_signs" = some (.ref f) ∧ FunD K "_law_signs" "_law_signs" (defArgs s__law_signs) (defBody s__law_signs) (defScope s__law_signs) [] [] f fd
  f__law_alike : ∃ (f : Addr) (fd : FuncData), mg "_law_alike" = some (.ref f) ∧ FunD K "_law_alike" "_law_alike" (defArgs s__law_alike) (defBody s__law_alike) (defScope s__law_alike) [] [] f fd
  f__law_lot_name : ∃ (f : Addr) (fd : FuncData), mg "_law_lot_name" = some (.ref f) ∧ FunD K "_law_lot_name" "_law_lot_name" (defArgs s__law_lot_name) (defBody s__law_lot_name) (defScope s__law_lot_name) [] [] f fd
  f_rows_in : ∃ (f : Addr) (fd : FuncData), mg "rows_in" = some (.ref f) ∧ FunD K "rows_in" "rows_in" (defArgs s_rows_in) (defBody s_rows_in) (defScope s_rows_in) [] [] f fd
  f_name_of_lot : ∃ (f : Addr) (fd : FuncData), mg "name_of_lot" = some (.ref f) ∧ FunD K "name_of_lot" "name_of_lot" (defArgs s_name_of_lot) (defBody s_name_of_lot) (defScope s_name_of_lot) [] [] f fd
  f_lot_name : ∃ (f : Addr) (fd : FuncData), mg "lot_name" = some (.ref f) ∧ FunD K "lot_name" "lot_name" (defArgs s_lot_name) (defBody s_lot_name) (defScope s_lot_name) [] [] f fd
  f__law_turns : ∃ (f : Addr) (fd : FuncData), mg "_law_turns" = some (.ref f) ∧ FunD K "_law_turns" "_law_turns" (defArgs s__law_turns) (defBody s__law_turns) (defScope s__law_turns) [] [] f fd
  f__law_turned : ∃ (f : Addr) (fd : FuncData), mg "_law_turned" = some (.ref f) ∧ FunD K "_law_turned" "_law_turned" (defArgs s__law_turned) (defBody s__law_turned) (defScope s__law_turned) [] [] f fd
  f__law_lot_ends : ∃ (f : Addr) (fd : FuncData), mg "_law_lot_ends" = some (.ref f) ∧ FunD K "_law_lot_ends" "_law_lot_ends" (defArgs s__law_lot_ends) (defBody s__law_lot_ends) (defScope s__law_lot_ends) [] [] f fd
  f__law_first : ∃ (f : Addr) (fd : FuncData), mg "_law_first" = some (.ref f) ∧ FunD K "_law_first" "_law_first" (defArgs s__law_first) (defBody s__law_first) (defScope s__law_first) [] [] f fd
  f__law_pairs : ∃ (f : Addr) (fd : FuncData), mg "_law_pairs" = some (.ref f) ∧ FunD K "_law_pairs" "_law_pairs" (defArgs s__law_pairs) (defBody s__law_pairs) (defScope s__law_pairs) [] [] f fd
  f__law_lots_parted : ∃ (f : Addr) (fd : FuncData), mg "_law_lots_parted" = some (.ref f) ∧ FunD K "_law_lots_parted" "_law_lots_parted" (defArgs s__law_lots_parted) (defBody s__law_lots_parted) (defScope s__law_lots_parted) [] [] f fd
  f_ends_in : ∃ (f : Addr) (fd : FuncData), mg "ends_in" = some (.ref f) ∧ FunD K "ends_in" "ends_in" (defArgs s_ends_in) (defBody s_ends_in) (defScope s_ends_in) [] [] f fd
  f_first_unlike : ∃ (f : Addr) (fd : FuncData), mg "first_unlike" = some (.ref f) ∧ FunD K "first_unlike" "first_unlike" (defArgs s_first_unlike) (defBody s_first_unlike) (defScope s_first_unlike) [] [] f fd
  f_pair_of : ∃ (f : Addr) (fd : FuncData), mg "pair_of" = some (.ref f) ∧ FunD K "pair_of" "pair_of" (defArgs s_pair_of) (defBody s_pair_of) (defScope s_pair_of) [] [] f fd
  f_pairs_of : ∃ (f : Addr) (fd : FuncData), mg "pairs_of" = some (.ref f) ∧ FunD K "pairs_of" "pairs_of" (defArgs s_pairs_of) (defBody s_pairs_of) (defScope s_pairs_of) [] [] f fd
  f_lots_parted : ∃ (f : Addr) (fd : FuncData), mg "lots_parted" = some (.ref f) ∧ FunD K "lots_parted" "lots_parted" (defArgs s_lots_parted) (defBody s_lots_parted) (defScope s_lots_parted) [] [] f fd
  f__law_why : ∃ (f : Addr) (fd : FuncData), mg "_law_why" = some (.ref f) ∧ FunD K "_law_why" "_law_why" (defArgs s__law_why) (defBody s__law_why) (defScope s__law_why) [] [] f fd
  f__law_word_of : ∃ (f : Addr) (fd : FuncData), mg "_law_word_of" = some (.ref f) ∧ FunD K "_law_word_of" "_law_word_of" (defArgs s__law_word_of) (defBody s__law_word_of) (defScope s__law_word_of) [] [] f fd
  i_BadLot : ∃ (C fI : Addr) (fdI : FuncData), mg "BadLot" = some (.ref C) ∧ Rn K C fI ["place"] ∧ FunD K "__init__" "BadLot.__init__" (defArgs s_BadLot___init__) (defBody s_BadLot___init__) (defScope s_BadLot___init__) [] [] fI fdI
  i_BadTurn : ∃ (C fI : Addr) (fdI : FuncData), mg "BadTurn" = some (.ref C) ∧ Rn K C fI ["number", "why"] ∧ FunD K "__init__" "BadTurn.__init__" (defArgs s_BadTurn___init__) (defBody s_BadTurn___init__) (defScope s_BadTurn___init__) [] [] fI fdI
  t_TurnError : ∃ C : Addr, mg "TurnError" = some (.ref C) ∧ Ini K C
  k_exc : ∃ CT : Addr, mg "TurnError" = some (.ref CT) ∧ ExTab K mg ["BadPins", "NoRow", "Unlike", "TooLong", "BadNumber", "BadPrices", "BadSide", "NoPiece", "BadName", "NoPoint", "Clash", "BadRow", "BadCounts", "BadLot", "BadTurn", "BadDeed", "BadText"] ["BadPins", "NoRow", "Unlike", "TooLong", "BadNumber", "BadPrices", "BadSide", "NoPiece", "BadName", "NoPoint", "Clash", "BadRow", "BadCounts", "BadLot", "BadTurn", "BadDeed", "BadText"] CT
  g_BadPins : ∃ C : Addr, mg "BadPins" = some (.ref C)
  g_NoRow : ∃ C : Addr, mg "NoRow" = some (.ref C)
  g_Unlike : ∃ C : Addr, mg "Unlike" = some (.ref C)
  g_TooLong : ∃ C : Addr, mg "TooLong" = some (.ref C)
  g_BadNumber : ∃ C : Addr, mg "BadNumber" = some (.ref C)
  g_BadPrices : ∃ C : Addr, mg "BadPrices" = some (.ref C)
  g_BadSide : ∃ C : Addr, mg "BadSide" = some (.ref C)
  g_NoPiece : ∃ C : Addr, mg "NoPiece" = some (.ref C)
  g_BadName : ∃ C : Addr, mg "BadName" = some (.ref C)
  g_NoPoint : ∃ C : Addr, mg "NoPoint" = some (.ref C)
  g_Clash : ∃ C : Addr, mg "Clash" = some (.ref C)
  g_BadRow : ∃ C : Addr, mg "BadRow" = some (.ref C)
  g_BadCounts : ∃ C : Addr, mg "BadCounts" = some (.ref C)
  g_BadLot : ∃ C : Addr, mg "BadLot" = some (.ref C)
  g_BadTurn : ∃ C : Addr, mg "BadTurn" = some (.ref C)
  g_BadDeed : ∃ C : Addr, mg "BadDeed" = some (.ref C)
  g_BadText : ∃ C : Addr, mg "BadText" = some (.ref C)
theorem sc_BadLot___init__ : FnScope ["self", "place"] ["self", "place"] (defScope s_BadLot___init__) := ⟨rfl, rfl, rfl, by decide +kernel, rfl, by decide +kernel, by decide +kernel⟩
theorem oi_BadLot {P : Program} {w : World} {K : PySem.W.Frag} {mg : Str → Option Value} {base : Heap} (T : Txt K mg) : HasI P w K mg base "BadLot" ["self", "place"] ["place"] := by
  obtain ⟨C, fI, fdI, g, rn, FI⟩ := T.i_BadLot
  obtain ⟨CT, gT, it⟩ := T.t_TurnError
  refine ⟨C, fI, fdI, g, rn, FI.bindsN (fun _ _ _ _ _ _ us hl => match us, hl with | [_, _], _ => rfl), FI.ok (k := 0) sc_BadLot___init__ (fun vs H Q E ⟨a, C, ws, e, _, _, _, hl, _⟩ => by rw [e, List.length_cons, hl]; rfl) (fun cdv A outer s H vs Q E hr h => ?_)⟩
  refine ⟨_, PSs.nox (pss_cons (ps_expr (pe_init it rfl gT (pa_cons (pv 0) (pa_cons (pv 1) pa_nil)))) (pss_one (ps_ost (pv 0) (pv 1)))), ?_⟩
  have hs : L2.start ["self", "place"] vs = vs.map some := by
    obtain ⟨a, C, ws, e, _, _, _, hl, _⟩ := h
    rw [e]; simp [L2.start, hl]
  rw [hs]
  exact ini_run1 h fun σ H' q => q
theorem sc_BadTurn___init__ : FnScope ["self", "number", "why"] ["self", "number", "why"] (defScope s_BadTurn___init__) := ⟨rfl, rfl, rfl, by decide +kernel, rfl, by decide +kernel, by decide +kernel⟩
theorem oi_BadTurn {P : Program} {w : World} {K : PySem.W.Frag} {mg : Str → Option Value} {base : Heap} (T : Txt K mg) : HasI P w K mg base "BadTurn" ["self", "number", "why"] ["number", "why"] := by
  obtain ⟨C, fI, fdI, g, rn, FI⟩ := T.i_BadTurn
  obtain ⟨CT, gT, it⟩ := T.t_TurnError
  refine ⟨C, fI, fdI, g, rn, FI.bindsN (fun _ _ _ _ _ _ us hl => match us, hl with | [_, _, _], _ => rfl), FI.ok (k := 0) sc_BadTurn___init__ (fun vs H Q E ⟨a, C, ws, e, _, _, _, hl, _⟩ => by rw [e, List.length_cons, hl]; rfl) (fun cdv A outer s H vs Q E hr h => ?_)⟩
  refine ⟨_, PSs.nox (pss_cons (ps_expr (pe_init it rfl gT (pa_cons (pv 0) (pa_cons (pv 1) (pa_cons (pv 2) pa_nil))))) (pss_cons (ps_ost (pv 0) (pv 1)) (pss_one (ps_ost (pv 0) (pv 2))))), ?_⟩
  have hs : L2.start ["self", "number", "why"] vs = vs.map some := by
    obtain ⟨a, C, ws, e, _, _, _, hl, _⟩ := h
    rw [e]; simp [L2.start, hl]
  rw [hs]
  exact ini_run2 h fun σ H' q => q
section
variable [ZI]
abbrev N_need_lot : List Str := ["lot", "place", "sign", "is_late"]
theorem sc_need_lot : FnScope N_need_lot ["lot"] (defScope s_need_lot) := ⟨rfl, rfl, rfl, by decide +kernel, rfl, by decide +kernel, by decide +kernel⟩
def pfx_need_lot : PFX := fun ds R X => ∃ d : Dt, ds = [d] ∧ LotX d X fun _ => R false .non
theorem len_need_lot : ∀ ds R X, pfx_need_lot ds R X → ds.length = 1 := by
  intro ds R X h
  (repeat (first | (obtain ⟨e, _⟩ := h; exact congrArg List.length e) | (obtain ⟨_, h⟩ := h)))
theorem ok_need_lot {P : Program} {w : World} {K : PySem.W.Frag} {mg : Str → Option Value} {base : Heap} (T : Txt K mg) : Has P w K mg base (L2.CX P w) 3 "need_lot" ["lot"] (spX mg pfx_need_lot) := by
  obtain ⟨f, fd, g, F⟩ := T.f_need_lot
  obtain ⟨C_BadLot, fI_BadLot, fdI_BadLot, gC_BadLot, rn_BadLot, bI_BadLot, FI_BadLot⟩ := (oi_BadLot (P := P) (w := w) (K := K) (mg := mg) (base := base) T).ex
  refine ⟨f, fd, g, F.kp, F.bindsN (fun _ _ _ _ _ _ us hl => match us, hl with | [_], _ => rfl), F.ok sc_need_lot (spX_len len_need_lot) (fun cdv A outer s H vs Q E hr h => ?_)⟩
  have hu64 : (A.deeper (envOfC "need_lot" (defScope s_need_lot) s.heap.objs.size f cdv)).units + 64 < cLine := hr.units
  have hu : (A.deeper (envOfC "need_lot" (defScope s_need_lot) s.heap.objs.size f cdv)).units + 1 < cLine := by omega
  have tk : Takes (cxOf (L2.CX P w) P w K mg base N_need_lot "need_lot" (defScope s_need_lot) f cdv A outer s H E) (fun cls d _ H => E cls d H) := takes_of rfl rfl rfl rfl
  have px : Passes (L2.CX P w) (cxOf (L2.CX P w) P w K mg base N_need_lot "need_lot" (defScope s_need_lot) f cdv A outer s H E) E := passes_call tk (fun _ _ _ _ h => h)
  obtain ⟨A0, Zd0, ds, R, X, hf, hi, hp0, k, lx⟩ := h
  refine ⟨_, (pss_cons (ps_if (pt_cut (PW.pt (pw_or (pt_not (pt_val (pe_callB call_isU (by rfl) T.z_isinstance (by decide +kernel) (pa_cons (pv 0) (pa_cons (pe_bltn (v := .ty "str") rfl T.z_str (by decide +kernel) rfl) pa_nil))))) (pw_or1 (pt_cmpR (op_neK (K := K) rfl hu64) (pe_slice sl_Z (pv 0) po_none (po_some pe_int)) (pe_gc rfl T.c_BAR) (nomark _)))))) (pss_one (ps_raiseZ rfl tk (pmk_n rn_BadLot FI_BadLot (hr.mono (by decide)) bI_BadLot gC_BadLot rfl (pa_cons pe_int pa_nil)))) pss_nil)
      (pss_cons (ps_for (passes_of rfl) rfl (pi_enumX (by rfl) T.z_enumerate (pa_cons (pv 0) pa_nil)) (pg_tupK (K := K) (n := 2) rfl (by rfl) (pgs_cons (pg_name (i := 1) sc_need_lot.nd rfl (Or.inl rfl)) (pgs_cons (pg_name (i := 2) sc_need_lot.nd rfl (Or.inl rfl)) pgs_nil))) (pss_cons (ps_set (i := 3) sc_need_lot.nd rfl (Or.inl rfl) (pe_cut (pe_and (pe_cmpR op_gtU (pv 1) pe_int (nomark _)) (pe_and (pe_cmpR (op_eqK (K := K) rfl hu64) (pv 2) (pe_gc rfl T.c_BAR) (nomark _)) (pe_one (pe_cmpR (op_eqK (K := K) rfl hu64) (pe_ix (ix_K (K := K) rfl) (pv 0) (pe_op op_sub (pv 1) pe_int) (fun _ _ => rfl)) (pe_gc rfl T.c_BAR) (nomark _)))))))
      (pss_one (ps_if (pt_cut (PW.pt (pw_or (pt_cmpR (op_eqK (K := K) rfl hu64) (pv 1) (pe_gc rfl T.c_MOST_SIGNS) (nomark _)) (pw_or (pt_val (pv 3)) (pw_or1 (pt_cut (PW.pt (pw_and (pt_cmpR (op_neK (K := K) rfl hu64) (pv 2) (pe_gc rfl T.c_BAR) (nomark _)) (pw_and1 (pt_cmpR (op_notInK (K := K) rfl) (pv 2) (pe_gc rfl T.c_SIGNS) (by rfl))))))))))) (pss_one (ps_raiseZ rfl tk (pmk_n rn_BadLot FI_BadLot (hr.mono (by decide)) bI_BadLot gC_BadLot rfl (pa_cons (pv 1) pa_nil)))) pss_nil))))
      (pss_one (ps_if (pt_cut (PW.pt (pw_or (pt_cmpR (op_eqK (K := K) rfl hu64) (pv 0) (pe_gc rfl T.c_BAR) (nomark _)) (pw_or1 (pt_cmpR (op_neK (K := K) rfl hu64) (pe_ix (ix_K (K := K) rfl) (pv 0) (pe_un un_neg pe_int) (fun _ _ => rfl)) (pe_gc rfl T.c_BAR) (nomark _)))))) (pss_one (ps_raiseZ rfl tk (pmk_n rn_BadLot FI_BadLot (hr.mono (by decide)) bI_BadLot gC_BadLot rfl (pa_cons (pe_callB (call_lenK (K := K) rfl) (by rfl) T.z_len PySem.boot_len (pa_cons (pv 0) pa_nil)) pa_nil)))) pss_nil)))), ?_⟩
  refine z_run (n := 3) hf hi ?_ k (cs_seq (cs_if (ct_cut0 (ct_or (ct_not (ct_B (ce_is (co_s 0) (by decide)))) (ct_test (ce_op (co_e (ce_sl (co_s 0) cp_no (cp_part ce_int))) (co_e ce_str) z_ne)))) (cs_raiseN lx gC_BadLot rn_BadLot.ox rn_BadLot.no (by decide) (ca_cons ce_int ca_nil)) cs_next)
      (cs_seq (cs_for (vs := [1, 2]) (ci_enumX (ce_var 0)) (cg_tup (cgs_cons (cg_name (by decide)) (cgs_cons (cg_name (by decide)) cgs_nil))) (cs_seq (cs_set (i := 3) (ce_cut (ce_and (ce_op (co_s 1) (co_e ce_int) z_gt) (ce_and (ce_op (co_s 2) (co_e ce_str) z_eq) (ce_op (co_e (ce_op (co_s 0) (co_e (ce_op (co_s 1) (co_e ce_int) z_sub)) z_ix)) (co_e ce_str) z_eq)))))
      (cs_if (ct_cut0 (ct_or (ct_test (ce_op (co_s 1) (co_e ce_int) z_eq)) (ct_or (ct_B (ce_var 3)) (ct_cut0 (ct_and (ct_test (ce_op (co_s 2) (co_e ce_str) z_ne)) (ct_test (ce_op (co_s 2) (co_e ce_str) z_notIn))))))) (cs_raiseN lx gC_BadLot rn_BadLot.ox rn_BadLot.no (by decide) (ca_cons (ce_var 1) ca_nil)) cs_next)))
      (cs_if (ct_cut0 (ct_or (ct_test (ce_op (co_s 0) (co_e ce_str) z_eq)) (ct_test (ce_op (co_e (ce_op (co_s 0) (co_e (ce_un (co_e ce_int) z_neg)) z_ix)) (co_e ce_str) z_ne)))) (cs_raiseN lx gC_BadLot rn_BadLot.ox rn_BadLot.no (by decide) (ca_cons (ce_cb1 (co_s 0) z_len) ca_nil)) cs_next))) ?_
  · rw [len_need_lot ds R X hp0]; rfl
  clear hf hi k lx px tk
  clear hr hu64 hu
  obtain ⟨d, rfl, ha, hx, k⟩ := hp0
  cases d with
  | str l =>
    obtain ⟨h1, h2⟩ := ha
    have hx : ∀ p : Nat, lotP l = some p → X ⟨"BadLot", [("place", .int (p : Int))]⟩ := hx
    walk_at "zz"
    rw [cutL_to _ (by decide)]
    rw [show (Int.toNat 1) = 1 from rfl]
    walk_at "nes"
    have hxp : lotP l = if l.take 1 ≠ [124] then some 0 else match (List.range l.length).find? (badLt l) with
      | some j => some j
      | none => if l = [124] ∨ l.getLast? ≠ some 124 then some l.length else none := rfl
    by_cases c0 : l.take 1 = [124]
    · rw [if_neg (by simp [c0])]
      rw [if_neg (by simp [c0])] at hxp
      have hpos : 0 < l.length := by
        cases l with
        | nil => cases c0
        | cons x l => simp
      walk_at "z"
      walk_at "for"
      rw [enumD_signs l]
      refine for_l (List.range l.length) _ (fun i s => (List.range i).find? (badLt l) = none ∧ ∃ x y z, s = [.fz (.str l), x, y, z]) rfl ⟨rfl, _, _, _, rfl⟩ ?_ ?_
      · rintro i j s hj ⟨hf, x, y, z, rfl⟩
        obtain ⟨hi, rfl⟩ : i < l.length ∧ j = i := by
          obtain ⟨h, e⟩ := List.getElem?_eq_some_iff.mp hj
          rw [List.getElem_range] at e
          exact ⟨by simpa using h, e.symm⟩
        have hraise : badLt l j = true → X ⟨"BadLot", [("place", .int (j : Int))]⟩ := fun hb => hx j (by rw [hxp, findr_hit hi hf hb])
        walk_at "z"
        obtain ⟨late, hlate⟩ : ∃ late : Bool, late = (decide (0 < j) && decide (l.getD j 0 = 124) && decide (l.getD (j - 1) 0 = 124)) := ⟨_, rfl⟩
        refine cutE_by (fun b d s' => b = false ∧ d = .bl late ∧ s' = [.fz (.str l), .fz (.int (j : Int)), .fz (.str [l.getD j 0]), z]) ?_ ?_
        · walk_at "z"
          by_cases q0 : 0 < j
          · rw [if_pos (decide_eq_true (by omega))]
            rw [decide_eq_true q0, Bool.true_and] at hlate
            walk_at "z"
            by_cases q1 : l.getD j 0 = 124
            · rw [if_pos (decide_eq_true q1)]
              rw [decide_eq_true q1, Bool.true_and] at hlate
              walk_at "z"
              refine ⟨by omega, j - 1, ⟨by omega, .inl (by omega)⟩, fun ch hch => ?_⟩
              have e : l.getD (j - 1) 0 = ch := by rw [List.getD_eq_getElem?_getD, hch]; rfl
              rw [e] at hlate
              walk_at "z"
              exact ⟨by rw [hlate], trivial⟩
            · rw [if_neg (by simpa using q1)]
              rw [decide_eq_false q1, Bool.false_and] at hlate
              walk_at "z"
              exact ⟨by rw [hlate], trivial⟩
          · rw [if_neg (by rw [decide_eq_false (by omega)]; decide)]
            rw [decide_eq_false q0, Bool.false_and, Bool.false_and] at hlate
            walk_at "z"
            exact ⟨by rw [hlate], trivial⟩
        rintro b d s' ⟨rfl, rfl, rfl⟩
        have hbl : badLt l j = (decide (j = 40) || late || (!decide (l.getD j 0 = 124) && !decide (l.getD j 0 ∈ abcS))) := by rw [hlate]; rfl
        walk_at "z"
        have hfin : ∀ b : Bool, badLt l j = b → (b = true → X ⟨"BadLot", [("place", .int (j : Int))]⟩) ∧ (b = false → (List.range (j + 1)).find? (badLt l) = none) := fun b e => ⟨fun h => hraise (by rw [e, h]), fun h => findr hf (by rw [e, h])⟩
        by_cases q40 : j = 40
        · rw [if_pos (decide_eq_true (by omega))]
          walk_at "z"
          exact ⟨[.int (j : Int)], rfl, rfl, hraise (by rw [hbl, decide_eq_true q40]; rfl)⟩
        rw [if_neg (by rw [decide_eq_false (by omega)]; decide)]
        rw [decide_eq_false q40, Bool.false_or] at hbl
        walk_at "z"
        cases late with
        | true =>
          walk_at "z"
          exact ⟨[.int (j : Int)], rfl, rfl, hraise (by rw [hbl]; rfl)⟩
        | false =>
          rw [Bool.false_or] at hbl
          walk_at "z"
          by_cases q1 : l.getD j 0 = 124
          · rw [if_neg (by rw [decide_eq_true q1]; decide)]
            rw [decide_eq_true q1] at hbl
            walk_at "z"
            exact ⟨findr hf hbl, _, _, _, rfl⟩
          · rw [if_pos (by simpa using q1)]
            rw [decide_eq_false q1] at hbl
            walk_at "z"
            by_cases q2 : l.getD j 0 ∈ abcS
            · rw [if_neg (by rw [decide_eq_true (show l.getD j 0 ∈ [97, 98, 99, 100, 101, 102, 103, 104] from q2)]; decide)]
              rw [decide_eq_true q2] at hbl
              walk_at "z"
              exact ⟨findr hf hbl, _, _, _, rfl⟩
            · rw [if_pos (by rw [decide_eq_false (show ¬ l.getD j 0 ∈ [97, 98, 99, 100, 101, 102, 103, 104] from q2)]; rfl)]
              rw [decide_eq_false q2] at hbl
              walk_at "z"
              exact ⟨[.int (j : Int)], rfl, rfl, hraise hbl⟩
      · rintro s ⟨hf, x, y, z, rfl⟩
        rw [List.length_range] at hf
        rw [hf] at hxp
        dsimp only at hxp
        walk_at "z"
        walk_at "eqs"
        by_cases c1 : l = [124]
        · rw [if_pos (.inl c1)] at hxp
          rw [if_pos (decide_eq_true c1)]
          walk_at "zz"
          exact ⟨[.int (l.length : Int)], rfl, rfl, hx _ hxp⟩
        · rw [if_neg (by simpa using c1)]
          walk_at "z"
          refine ⟨by omega, l.length - 1, ⟨by omega, .inr (by omega)⟩, fun ch hch => ?_⟩
          have hlast : l.getLast? = some ch := by rw [List.getLast?_eq_getElem?]; exact hch
          walk_at "z"
          by_cases c2 : ch = 124
          · subst c2
            walk_at "z"
            first
              | exact k l rfl (lot_good c0 hf c1 hlast)
              | (rw [if_neg (by simp)]; walk_at "z"; exact k l rfl (lot_good c0 hf c1 hlast))
          · rw [if_pos (.inr (by rw [hlast]; simpa using c2))] at hxp
            rw [if_pos (by simpa using c2)]
            walk_at "zz"
            exact ⟨[.int (l.length : Int)], rfl, rfl, hx _ hxp⟩
    · rw [if_pos (by simp [c0])]
      rw [if_pos c0] at hxp
      walk_at "z"
      exact ⟨[.int 0], rfl, rfl, hx 0 hxp⟩
  | val v => exact ha.elim
  | dice => exact ha.elim
  | ob n l => exact ha.elim
  | dic a b => exact ha.elim
  | _ =>
    walk_at "zz"
    exact ⟨[.int 0], rfl, rfl, hx 0 rfl⟩
theorem pq_need_lot {mg : Str → Option Value} : PureOfX mg (spX mg pfx_need_lot) pfx_need_lot := pure_spX
abbrev N_is_number : List Str := ["thing", "low", "high"]
theorem sc_is_number : FnScope N_is_number ["thing", "low", "high"] (defScope s_is_number) := ⟨rfl, rfl, rfl, by decide +kernel, rfl, by decide +kernel, by decide +kernel⟩
def numV (v : V) (lo hi : Int) : Bool := match v with
  | .int i => decide (lo ≤ i ∧ i ≤ hi)
  | _ => false
def sp_is_number (K : PySem.W.Frag) : Sp := fun vs H Q _ => ∃ (x : V) (lo hi : Int) (t : String), vs = [x, .int lo, .int hi] ∧ Tg H x t ∧ t ≠ "dict" ∧ Q (.bl (numV x lo hi)) H
theorem ok_is_number {P : Program} {w : World} {K : PySem.W.Frag} {mg : Str → Option Value} {base : Heap} (T : Txt K mg) : Has P w K mg base CX0 1 "is_number" ["thing", "low", "high"] (sp_is_number K) := by
  obtain ⟨f, fd, g, F⟩ := T.f_is_number
  refine ⟨f, fd, g, F.kp, F.bindsN (fun _ _ _ _ _ _ us hl => match us, hl with | [_, _, _], _ => rfl), F.ok sc_is_number (fun vs H Q E h => ?_) (fun cdv A outer s H vs Q E hr h => ?_)⟩
  · repeat (first | (obtain ⟨e, _⟩ := h; exact congrArg List.length e) | (obtain ⟨_, h⟩ := h))
  have hu64 : (A.deeper (envOfC "is_number" (defScope s_is_number) s.heap.objs.size f cdv)).units + 64 < cLine := hr.units
  refine ⟨_, PSs.nox ((pss_one (ps_ret (pe_cut (pe_and (pe_callB call_isU (by rfl) T.z_isinstance (by decide +kernel) (pa_cons (pv 0) (pa_cons (pe_bltn (v := .ty "int") rfl T.z_int (by decide +kernel) rfl) pa_nil))) (pe_and (pe_not (pe_callB call_isU (by rfl) T.z_isinstance (by decide +kernel) (pa_cons (pv 0) (pa_cons (pe_bltn (v := .ty "bool") rfl T.z_bool (by decide +kernel) rfl) pa_nil)))) (pe_one (pe_chain op_leU op_leU (pv 1) (pv 0) (pv 2))))))))), ?_⟩
  obtain ⟨x, lo, hi, t, rfl, ht, hd, k⟩ := h
  (generalize hst : L2.start _ _ = st0; simp only [L2.start, N_is_number, List.map_cons, List.map_nil, List.length_cons, List.length_nil, Nat.reduceAdd, Nat.reduceSub, List.replicate_succ, List.replicate_zero, List.cons_append, List.nil_append, List.append_nil] at hst; subst hst)
  refine w_cutV (.bl (numV x lo hi)) ?_ k
  cases ht with
  | int i =>
    walk_at "go"
    by_cases c1 : lo ≤ i
    · rw [decide_eq_true c1]
      walk_at "go"
      exact ⟨by simp [numV, c1], rfl⟩
    · rw [decide_eq_false c1]
      walk_at "go"
      exact ⟨by simp [numV, c1], rfl⟩
  | dK h => exact absurd rfl hd
  | _ =>
    walk_at "go"
    exact ⟨rfl, rfl⟩
def pf_is_number : PF := fun ds R => ∃ (d : Dt) (lo hi : Int), ds = [d, .int lo, .int hi] ∧ argOk d ∧ R false (.bl (numB d lo hi))
theorem pu_is_number {K : PySem.W.Frag} {E : XK} : PureOf (sp_is_number K) pf_is_number E := by
  rintro c L H vs ds Q R h hf ⟨d, lo, hi, rfl, ha, hr⟩ k
  obtain ⟨v, ws, rfl, e1, v2, ws2, rfl, e2, v3, ws3, rfl, e3, e4⟩ := hf
  cases e2; cases e3; cases e4
  cases d with
  | val v => exact ha.elim
  | dice => exact ha.elim
  | ob n l => exact ha.elim
  | dic a b => exact ha.elim
  | non => cases e1; exact ⟨_, lo, hi, _, rfl, .non, by decide, k _ _ _ _ hr (sub_bl h (Ex.refl _) _)⟩
  | bl b => cases e1; exact ⟨_, lo, hi, _, rfl, .bl b, by decide, k _ _ _ _ hr (sub_bl h (Ex.refl _) _)⟩
  | int i => cases e1; exact ⟨_, lo, hi, _, rfl, .int i, by decide, k _ _ _ _ hr (sub_bl h (Ex.refl _) _)⟩
  | str l => cases e1; exact ⟨_, lo, hi, _, rfl, .str _, by decide, k _ _ _ _ hr (sub_bl h (Ex.refl _) _)⟩
  | tup l => obtain ⟨a, xs, rfl, _, hh, _⟩ := e1; exact ⟨_, lo, hi, _, rfl, .tup hh, by decide, k _ _ _ _ hr (sub_bl h (Ex.refl _) _)⟩
  | tpk l => obtain ⟨a, xs, o, rfl, _, hh, _⟩ := e1; exact ⟨_, lo, hi, _, rfl, .tup (.inr ⟨o, hh⟩), by decide, k _ _ _ _ hr (sub_bl h (Ex.refl _) _)⟩
  | lst l => obtain ⟨a, xs, rfl, _, hh, _⟩ := e1; exact ⟨_, lo, hi, _, rfl, .lst hh, by decide, k _ _ _ _ hr (sub_bl h (Ex.refl _) _)⟩
abbrev N_why_not : List Str := ["row", "pins", "turn", "place"]
theorem sc_why_not : FnScope N_why_not ["row", "pins", "turn"] (defScope s_why_not) := ⟨rfl, rfl, rfl, by decide +kernel, rfl, by decide +kernel, by decide +kernel⟩
def pf_why_not : PF := fun ds R => ∃ (row held : List Nat) (d : Dt), ds = [.str row, .str held, d] ∧ row.length ≤ 1000 ∧ TurnArg d ∧ R false (.str (whyD row held d))
theorem len_why_not : ∀ ds R, pf_why_not ds R → ds.length = 3 := by
  intro ds R h
  (repeat (first | (obtain ⟨e, _⟩ := h; exact congrArg List.length e) | (obtain ⟨_, h⟩ := h)))
theorem ok_why_not {P : Program} {w : World} {K : PySem.W.Frag} {mg : Str → Option Value} {base : Heap} (T : Txt K mg) : Has P w K mg base CX0 2 "why_not" ["row", "pins", "turn"] (spZ pf_why_not) := by
  obtain ⟨f, fd, g, F⟩ := T.f_why_not
  obtain ⟨f_is_number, fd_is_number, g_is_number, kp_is_number, b_is_number, G_is_number⟩ := (ok_is_number (P := P) (w := w) (K := K) (mg := mg) (base := base) T).ex
  refine ⟨f, fd, g, F.kp, F.bindsN (fun _ _ _ _ _ _ us hl => match us, hl with | [_, _, _], _ => rfl), F.ok sc_why_not (fun vs H Q E h => spZ_len (len_why_not) (K := K) vs H Q E h) (fun cdv A outer s H vs Q E hr h => ?_)⟩
  have hu64 : (A.deeper (envOfC "why_not" (defScope s_why_not) s.heap.objs.size f cdv)).units + 64 < cLine := hr.units
  have hu : (A.deeper (envOfC "why_not" (defScope s_why_not) s.heap.objs.size f cdv)).units + 1 < cLine := by omega
  obtain ⟨A0, Zd0, ds, R, hf, hi, hp0, k⟩ := h
  refine ⟨_, PSs.nox ((pss_cons (ps_if (pt_cut (PW.pt (pw_or (pt_not (pt_val (pe_callB call_isU (by rfl) T.z_isinstance (by decide +kernel) (pa_cons (pv 2) (pa_cons (pe_bltn (v := .ty "tuple") rfl T.z_tuple (by decide +kernel) rfl) pa_nil))))) (pw_or1 (pt_cmpR (op_neK (K := K) rfl hu64) (pe_callB (call_lenK (K := K) rfl) (by rfl) T.z_len PySem.boot_len (pa_cons (pv 2) pa_nil)) pe_int (nomark _)))))) (pss_one (ps_ret (pe_strL (l := [112, 108, 97, 99, 101]) (by decide +kernel)))) pss_nil)
      (pss_cons (ps_if (pt_cut (PW.pt (pw_or (pt_not (pt_val (pe_callB (call_allK (K := K) rfl rfl) (by rfl) T.z_all (by decide +kernel) (pa_cons (pe_lc (own := [("place", 3)]) rfl sc_why_not.nd (pi_anyK (K := K) rfl (pv 2)) (blkOk_by (own := [("place", 3)]) (N := N_why_not) (sc := defScope s_why_not) (by decide +kernel)) (fun _ _ _ _ _ => (pg_name (i := 3) sc_why_not.nd rfl (Or.inl rfl))) (fun _ _ _ _ _ => (pts_cut pts_nil)) (fun _ _ _ _ _ => (pe_cut (pe_call G_is_number (hr.mono (by decide)) rfl g_is_number kp_is_number b_is_number .nil pass0 (pa_cons (pv 3) (pa_cons pe_int (pa_cons (pe_op op_sub (pe_callB (call_lenK (K := K) rfl) (by rfl) T.z_len PySem.boot_len (pa_cons (pv 0) pa_nil)) pe_int) pa_nil))))))) pa_nil)))) (pw_or1 (pt_cmpR op_geU (pe_ix (ix_K (K := K) rfl) (pv 2) pe_int (fun _ _ => rfl)) (pe_ix (ix_K (K := K) rfl) (pv 2) pe_int (fun _ _ => rfl)) (nomark _)))))) (pss_one (ps_ret (pe_strL (l := [112, 108, 97, 99, 101]) (by decide +kernel)))) pss_nil)
      (pss_cons (ps_if (pt_cmpR (op_neK (K := K) rfl hu64) (pe_ix (ix_K (K := K) rfl) (pv 0) (pe_ix (ix_K (K := K) rfl) (pv 2) pe_int (fun _ _ => rfl)) (fun _ _ => rfl)) (pe_ix (ix_K (K := K) rfl) (pv 0) (pe_ix (ix_K (K := K) rfl) (pv 2) pe_int (fun _ _ => rfl)) (fun _ _ => rfl)) (nomark _)) (pss_one (ps_ret (pe_strL (l := [117, 110, 108, 105, 107, 101]) (by decide +kernel)))) pss_nil)
      (pss_one (ps_ret (pe_cut (pe_ifExp (pt_cmpR (op_inK (K := K) rfl) (pe_ix (ix_K (K := K) rfl) (pv 0) (pe_ix (ix_K (K := K) rfl) (pv 2) pe_int (fun _ _ => rfl)) (fun _ _ => rfl)) (pv 1) (by rfl)) (pe_strL (l := [112, 105, 110, 110, 101, 100]) (by decide +kernel)) (pe_strL (l := []) (by decide +kernel)))))))))), ?_⟩
  refine z_run (n := 1) hf hi ?_ k (cs_seq (cs_if (ct_cut0 (ct_or (ct_not (ct_B (ce_is (co_s 2) (by decide)))) (ct_test (ce_op (co_e (ce_cb1 (co_s 2) z_len)) (co_e ce_int) z_ne)))) (cs_ret ce_str) cs_next)
      (cs_seq (cs_if (ct_cut0 (ct_or (ct_not (ct_B (ce_cb1 (co_e (ce_lc (vs := [3]) (ks := [0]) (ci_any (ce_var 2)) (cg_name (by decide)) (ct_cut0 ct_yes) (ce_cut0 (ce_call (ca_cons (ce_var 3) (ca_cons ce_int (ca_cons (ce_op (co_e (ce_cb1 (co_s 0) z_len)) (co_e ce_int) z_sub) ca_nil))) pu_is_number)))) z_all))) (ct_test (ce_op (co_e (ce_op (co_s 2) (co_e ce_int) z_ix)) (co_e (ce_op (co_s 2) (co_e ce_int) z_ix)) z_ge)))) (cs_ret ce_str) cs_next)
      (cs_seq (cs_if (ct_test (ce_op (co_e (ce_op (co_s 0) (co_e (ce_op (co_s 2) (co_e ce_int) z_ix)) z_ix)) (co_e (ce_op (co_s 0) (co_e (ce_op (co_s 2) (co_e ce_int) z_ix)) z_ix)) z_ne)) (cs_ret ce_str) cs_next)
      (cs_ret (ce_cut0 (ce_if (ct_test (ce_op (co_e (ce_op (co_s 0) (co_e (ce_op (co_s 2) (co_e ce_int) z_ix)) z_ix)) (co_s 1) z_in)) ce_str ce_str)))))) ?_
  · rw [len_why_not ds R hp0]; rfl
  clear hf hi k
  clear hr hu64 hu G_is_number b_is_number kp_is_number g_is_number
  obtain ⟨row, held, d, rfl, hl, ⟨ha, hes⟩, k⟩ := hp0
  cases d with
  | val v => exact ha.elim
  | dice => exact ha.elim
  | ob n l => exact ha.elim
  | dic a b => exact ha.elim
  | tup es =>
    have he := hes es rfl
    clear hes ha
    have hw : ∀ x y, es = [x, y] → whyD row held (.tup es) = whyD row held (.tup [x, y]) := fun x y e => by subst e; rfl
    have hw2 : es.length ≠ 2 → whyD row held (.tup es) = [112, 108, 97, 99, 101] := fun e => whyD_not2 rfl e
    walk_at "z"
    by_cases h2 : es.length = 2
    · rw [if_neg (by rw [decide_eq_true (by omega)]; decide)]
      obtain ⟨x, y, rfl⟩ : ∃ x y, es = [x, y] := by
        match es, h2 with
        | [x, y], _ => exact ⟨x, y, rfl⟩
      rw [hw x y rfl] at k
      clear hw hw2
      have ax := he x (by simp)
      have ay := he y (by simp)
      walk_at "z"
      walk_at "lc"
      refine lc_map [x, y] (fun e => e) (fun e => .bl (numB e 0 ((row.length : Int) - 1))) (by simp) (by simp) ?_ ?_
      · intro i e acc G hi hG
        walk_at "zz"
        exact ⟨e, _, _, rfl, he e (List.mem_of_getElem? hi), hG⟩
      rw [show [x, y].map (fun e => Dt.bl (numB e 0 ((row.length : Int) - 1))) = [numB x 0 ((row.length : Int) - 1), numB y 0 ((row.length : Int) - 1)].map .bl from rfl]
      refine zAll_l ?_
      by_cases hn : numB x 0 ((row.length : Int) - 1) = true ∧ numB y 0 ((row.length : Int) - 1) = true
      · obtain ⟨i, rfl, hi⟩ := numB_nat hn.1
        obtain ⟨j, rfl, hj⟩ := numB_nat hn.2
        rw [hn.1, hn.2]
        clear hn ax ay he h2
        have k : R false (.str (whyM row held (i : Int) (j : Int))) := k
        rw [show ([true, true].all id) = true from rfl]
        walk_at "z"
        by_cases hc : (j : Int) ≤ (i : Int)
        · rw [if_pos (decide_eq_true hc)]
          unfold whyM at k
          rw [if_neg (by omega)] at k
          walk_at "z"
          exact k
        · rw [if_neg (by rw [decide_eq_false hc]; decide)]
          unfold whyM at k
          rw [if_pos ⟨by omega, by omega, by omega⟩] at k
          walk_at "z"
          refine zIx_s (k := i) (by omega) (by omega) (.inl rfl) fun a ha => ?_
          walk_at "z"
          refine zIx_s (k := j) (by omega) (by omega) (.inl rfl) fun b hb => ?_
          have ea : row.getD i 0 = a := by rw [List.getD_eq_getElem?_getD, ha]; rfl
          have eb : row.getD j 0 = b := by rw [List.getD_eq_getElem?_getD, hb]; rfl
          rw [Int.toNat_natCast, Int.toNat_natCast, ea, eb] at k
          walk_at "z"
          by_cases hab : a = b
          · rw [if_neg (fun z => z hab)] at k
            rw [if_neg (by rw [decide_eq_true hab]; decide)]
            walk_at "z"
            refine zIx_s (k := i) (by omega) (by omega) (.inl rfl) fun a2 ha2 => ?_
            rw [ha] at ha2
            cases ha2
            walk_at "z"
            by_cases hh : a ∈ held
            · rw [if_pos hh] at k
              rw [if_pos (decide_eq_true hh)]
              walk_at "z"
              exact k
            · rw [if_neg hh] at k
              rw [if_neg (by rw [decide_eq_false hh]; decide)]
              walk_at "z"
              exact k
          · rw [if_pos hab] at k
            rw [if_pos (by rw [decide_eq_false hab]; rfl)]
            walk_at "z"
            exact k
      · have e1 : ([numB x 0 ((row.length : Int) - 1), numB y 0 ((row.length : Int) - 1)].all id) = false := by
          cases hx : numB x 0 ((row.length : Int) - 1) <;> cases hy : numB y 0 ((row.length : Int) - 1) <;> first | rfl | exact absurd ⟨hx, hy⟩ hn
        have e2 : whyD row held (.tup [x, y]) = [112, 108, 97, 99, 101] := by
          show (match some [x, y] with | some [.int h, .int t] => whyM row held h t | _ => [112, 108, 97, 99, 101]) = _
          split
          · rename_i h t e
            cases e
            unfold whyM
            rw [if_neg]
            intro q
            exact hn ⟨decide_eq_true ⟨by omega, by omega⟩, decide_eq_true ⟨by omega, by omega⟩⟩
          · rfl
        rw [e2] at k
        rw [e1]
        walk_at "z"
        exact k
    · rw [if_pos (by rw [decide_eq_false (by omega)]; rfl)]
      rw [hw2 h2] at k
      walk_at "z"
      exact k
  | tpk es =>
    have he := hes es rfl
    clear hes ha
    have hw : ∀ x y, es = [x, y] → whyD row held (.tpk es) = whyD row held (.tup [x, y]) := fun x y e => by subst e; rfl
    have hw2 : es.length ≠ 2 → whyD row held (.tpk es) = [112, 108, 97, 99, 101] := fun e => whyD_not2 rfl e
    walk_at "z"
    by_cases h2 : es.length = 2
    · rw [if_neg (by rw [decide_eq_true (by omega)]; decide)]
      obtain ⟨x, y, rfl⟩ : ∃ x y, es = [x, y] := by
        match es, h2 with
        | [x, y], _ => exact ⟨x, y, rfl⟩
      rw [hw x y rfl] at k
      clear hw hw2
      have ax := he x (by simp)
      have ay := he y (by simp)
      walk_at "z"
      walk_at "lc"
      refine lc_map [x, y] (fun e => e) (fun e => .bl (numB e 0 ((row.length : Int) - 1))) (by simp) (by simp) ?_ ?_
      · intro i e acc G hi hG
        walk_at "zz"
        exact ⟨e, _, _, rfl, he e (List.mem_of_getElem? hi), hG⟩
      rw [show [x, y].map (fun e => Dt.bl (numB e 0 ((row.length : Int) - 1))) = [numB x 0 ((row.length : Int) - 1), numB y 0 ((row.length : Int) - 1)].map .bl from rfl]
      refine zAll_l ?_
      by_cases hn : numB x 0 ((row.length : Int) - 1) = true ∧ numB y 0 ((row.length : Int) - 1) = true
      · obtain ⟨i, rfl, hi⟩ := numB_nat hn.1
        obtain ⟨j, rfl, hj⟩ := numB_nat hn.2
        rw [hn.1, hn.2]
        clear hn ax ay he h2
        have k : R false (.str (whyM row held (i : Int) (j : Int))) := k
        rw [show ([true, true].all id) = true from rfl]
        walk_at "z"
        by_cases hc : (j : Int) ≤ (i : Int)
        · rw [if_pos (decide_eq_true hc)]
          unfold whyM at k
          rw [if_neg (by omega)] at k
          walk_at "z"
          exact k
        · rw [if_neg (by rw [decide_eq_false hc]; decide)]
          unfold whyM at k
          rw [if_pos ⟨by omega, by omega, by omega⟩] at k
          walk_at "z"
          refine zIx_s (k := i) (by omega) (by omega) (.inl rfl) fun a ha => ?_
          walk_at "z"
          refine zIx_s (k := j) (by omega) (by omega) (.inl rfl) fun b hb => ?_
          have ea : row.getD i 0 = a := by rw [List.getD_eq_getElem?_getD, ha]; rfl
          have eb : row.getD j 0 = b := by rw [List.getD_eq_getElem?_getD, hb]; rfl
          rw [Int.toNat_natCast, Int.toNat_natCast, ea, eb] at k
          walk_at "z"
          by_cases hab : a = b
          · rw [if_neg (fun z => z hab)] at k
            rw [if_neg (by rw [decide_eq_true hab]; decide)]
            walk_at "z"
            refine zIx_s (k := i) (by omega) (by omega) (.inl rfl) fun a2 ha2 => ?_
            rw [ha] at ha2
            cases ha2
            walk_at "z"
            by_cases hh : a ∈ held
            · rw [if_pos hh] at k
              rw [if_pos (decide_eq_true hh)]
              walk_at "z"
              exact k
            · rw [if_neg hh] at k
              rw [if_neg (by rw [decide_eq_false hh]; decide)]
              walk_at "z"
              exact k
          · rw [if_pos hab] at k
            rw [if_pos (by rw [decide_eq_false hab]; rfl)]
            walk_at "z"
            exact k
      · have e1 : ([numB x 0 ((row.length : Int) - 1), numB y 0 ((row.length : Int) - 1)].all id) = false := by
          cases hx : numB x 0 ((row.length : Int) - 1) <;> cases hy : numB y 0 ((row.length : Int) - 1) <;> first | rfl | exact absurd ⟨hx, hy⟩ hn
        have e2 : whyD row held (.tup [x, y]) = [112, 108, 97, 99, 101] := by
          show (match some [x, y] with | some [.int h, .int t] => whyM row held h t | _ => [112, 108, 97, 99, 101]) = _
          split
          · rename_i h t e
            cases e
            unfold whyM
            rw [if_neg]
            intro q
            exact hn ⟨decide_eq_true ⟨by omega, by omega⟩, decide_eq_true ⟨by omega, by omega⟩⟩
          · rfl
        rw [e2] at k
        rw [e1]
        walk_at "z"
        exact k
    · rw [if_pos (by rw [decide_eq_false (by omega)]; rfl)]
      rw [hw2 h2] at k
      walk_at "z"
      exact k
  | _ =>
    walk_at "zz"
    exact k
theorem pu_why_not {E : XK} : PureOf (spZ pf_why_not) pf_why_not E := pure_spZ
abbrev N_behind : List Str := ["row", "turn", "here", "there"]
theorem sc_behind : FnScope N_behind ["row", "turn"] (defScope s_behind) := ⟨rfl, rfl, rfl, by decide +kernel, rfl, by decide +kernel, by decide +kernel⟩
def pf_behind : PF := fun ds R => ∃ (row : List Nat) (d : Dt) (h t : Nat), ds = [.str row, d] ∧ tupD d = some [.int h, .int t] ∧ h ≤ t ∧ t < row.length ∧ row.length ≤ 1000 ∧ R false (.str (turnM row h t))
theorem len_behind : ∀ ds R, pf_behind ds R → ds.length = 2 := by
  intro ds R h
  (repeat (first | (obtain ⟨e, _⟩ := h; exact congrArg List.length e) | (obtain ⟨_, h⟩ := h)))
theorem ok_behind {P : Program} {w : World} {K : PySem.W.Frag} {mg : Str → Option Value} {base : Heap} (T : Txt K mg) : Has P w K mg base CX0 1 "behind" ["row", "turn"] (spZ pf_behind) := by
  obtain ⟨f, fd, g, F⟩ := T.f_behind
  refine ⟨f, fd, g, F.kp, F.bindsN (fun _ _ _ _ _ _ us hl => match us, hl with | [_, _], _ => rfl), F.ok sc_behind (fun vs H Q E h => spZ_len (len_behind) (K := K) vs H Q E h) (fun cdv A outer s H vs Q E hr h => ?_)⟩
  have hu64 : (A.deeper (envOfC "behind" (defScope s_behind) s.heap.objs.size f cdv)).units + 64 < cLine := hr.units
  have hu : (A.deeper (envOfC "behind" (defScope s_behind) s.heap.objs.size f cdv)).units + 1 < cLine := by omega
  obtain ⟨A0, Zd0, ds, R, hf, hi, hp0, k⟩ := h
  refine ⟨_, PSs.nox ((pss_cons (ps_asg (pv 1) (pg_tupK (K := K) (n := 2) rfl (by rfl) (pgs_cons (pg_name (i := 2) sc_behind.nd rfl (Or.inl rfl)) (pgs_cons (pg_name (i := 3) sc_behind.nd rfl (Or.inl rfl)) pgs_nil))))
      (pss_one (ps_ret (pe_op op_addZ (pe_op op_addZ (pe_slice sl_Z (pv 0) po_none (po_some (pv 2))) (pe_revX (pe_slice sl_Z (pv 0) (po_some (pv 2)) (po_some (pe_op op_addZ (pv 3) pe_int))))) (pe_slice sl_Z (pv 0) (po_some (pe_op op_addZ (pv 3) pe_int)) po_none)))))), ?_⟩
  refine z_run (n := 2) hf hi ?_ k (cs_seq (cs_asg (vs := [2, 3]) (ce_var 1) (cg_tup (cgs_cons (cg_name (by decide)) (cgs_cons (cg_name (by decide)) cgs_nil))))
      (cs_ret (ce_op (co_e (ce_op (co_e (ce_sl (co_s 0) cp_no (cp_part (ce_var 2)))) (co_e (ce_rev (co_e (ce_sl (co_s 0) (cp_part (ce_var 2)) (cp_part (ce_op (co_s 3) (co_e ce_int) z_add)))))) z_add)) (co_e (ce_sl (co_s 0) (cp_part (ce_op (co_s 3) (co_e ce_int) z_add)) cp_no)) z_add))) ?_
  · rw [len_behind ds R hp0]; rfl
  clear hf hi k
  clear hr hu64 hu
  obtain ⟨row, d, h, t, rfl, hd, hh, ht, hl, k⟩ := hp0
  have l1 := cutL_length row none (some (h : Int))
  have l2 := cutL_length row (some ((t : Int) + 1)) none
  have l3 := cutL_length row (some (h : Int)) (some ((t : Int) + 1))
  have eq : cutL row none (some (h : Int)) ++ (cutL row (some (h : Int)) (some ((t : Int) + 1))).reverse ++ cutL row (some ((t : Int) + 1)) none = turnM row h t := by
    rw [cutL_to _ (by omega), cutL_from _ (by omega), cutL_both _ (by omega) (by omega)]
    unfold turnM
    have : ((t : Int) + 1).toNat = t + 1 := by omega
    rw [this]; rfl
  rw [← eq] at k
  cases d <;> cases hd
  all_goals
    walk_at "zz"
    exact k
theorem pu_behind {E : XK} : PureOf (spZ pf_behind) pf_behind E := pure_spZ
abbrev N_lot_turned : List Str := ["lot", "here", "there", "why"]
theorem sc_lot_turned : FnScope N_lot_turned ["lot", "here", "there"] (defScope s_lot_turned) := ⟨rfl, rfl, rfl, by decide +kernel, rfl, by decide +kernel, by decide +kernel⟩
def pfx_lot_turned : PFX := fun ds R X => ∃ (d e f : Dt), ds = [d, e, f] ∧ LotX d X fun r => TurnArg (.tup [e, f]) ∧ (whyD r [] (.tup [e, f]) ≠ [] → X (turnXd 0 (whyD r [] (.tup [e, f])))) ∧ (∀ q : Nat × Nat, e = .int q.1 → f = .int q.2 → whyM r [] q.1 q.2 = [] → R false (.str (turnM r q.1 q.2)))
theorem len_lot_turned : ∀ ds R X, pfx_lot_turned ds R X → ds.length = 3 := by
  intro ds R X h
  (repeat (first | (obtain ⟨e, _⟩ := h; exact congrArg List.length e) | (obtain ⟨_, h⟩ := h)))
theorem ok_lot_turned {P : Program} {w : World} {K : PySem.W.Frag} {mg : Str → Option Value} {base : Heap} (T : Txt K mg) : Has P w K mg base (L2.CX P w) 4 "lot_turned" ["lot", "here", "there"] (spX mg pfx_lot_turned) := by
  obtain ⟨f, fd, g, F⟩ := T.f_lot_turned
  obtain ⟨f_behind, fd_behind, g_behind, kp_behind, b_behind, G_behind⟩ := (ok_behind (P := P) (w := w) (K := K) (mg := mg) (base := base) T).ex
  obtain ⟨f_need_lot, fd_need_lot, g_need_lot, kp_need_lot, b_need_lot, G_need_lot⟩ := (ok_need_lot (P := P) (w := w) (K := K) (mg := mg) (base := base) T).ex
  obtain ⟨f_why_not, fd_why_not, g_why_not, kp_why_not, b_why_not, G_why_not⟩ := (ok_why_not (P := P) (w := w) (K := K) (mg := mg) (base := base) T).ex
  obtain ⟨C_BadTurn, fI_BadTurn, fdI_BadTurn, gC_BadTurn, rn_BadTurn, bI_BadTurn, FI_BadTurn⟩ := (oi_BadTurn (P := P) (w := w) (K := K) (mg := mg) (base := base) T).ex
  refine ⟨f, fd, g, F.kp, F.bindsN (fun _ _ _ _ _ _ us hl => match us, hl with | [_, _, _], _ => rfl), F.ok sc_lot_turned (spX_len len_lot_turned) (fun cdv A outer s H vs Q E hr h => ?_)⟩
  have hu64 : (A.deeper (envOfC "lot_turned" (defScope s_lot_turned) s.heap.objs.size f cdv)).units + 64 < cLine := hr.units
  have hu : (A.deeper (envOfC "lot_turned" (defScope s_lot_turned) s.heap.objs.size f cdv)).units + 1 < cLine := by omega
  have tk : Takes (cxOf (L2.CX P w) P w K mg base N_lot_turned "lot_turned" (defScope s_lot_turned) f cdv A outer s H E) (fun cls d _ H => E cls d H) := takes_of rfl rfl rfl rfl
  have px : Passes (L2.CX P w) (cxOf (L2.CX P w) P w K mg base N_lot_turned "lot_turned" (defScope s_lot_turned) f cdv A outer s H E) E := passes_call tk (fun _ _ _ _ h => h)
  obtain ⟨A0, Zd0, ds, R, X, hf, hi, hp0, k, lx⟩ := h
  refine ⟨_, (pss_cons (ps_expr (pe_call G_need_lot (hr.mono (by decide)) rfl g_need_lot kp_need_lot b_need_lot .nil px (pa_cons (pv 0) pa_nil)))
      (pss_cons (ps_set (i := 3) sc_lot_turned.nd rfl (Or.inl rfl) (pe_call G_why_not (hr.mono (by decide)) rfl g_why_not kp_why_not b_why_not .nil pass0 (pa_cons (pv 0) (pa_cons (pe_strL (l := []) (by decide +kernel)) (pa_cons (pe_tupX (pa_cons (pv 1) (pa_cons (pv 2) pa_nil))) pa_nil)))))
      (pss_cons (ps_if (pt_cmpR (op_neK (K := K) rfl hu64) (pv 3) (pe_strL (l := []) (by decide +kernel)) (nomark _)) (pss_one (ps_raiseZ rfl tk (pmk_n rn_BadTurn FI_BadTurn (hr.mono (by decide)) bI_BadTurn gC_BadTurn rfl (pa_cons pe_int (pa_cons (pv 3) pa_nil))))) pss_nil)
      (pss_one (ps_ret (pe_call G_behind (hr.mono (by decide)) rfl g_behind kp_behind b_behind .nil pass0 (pa_cons (pv 0) (pa_cons (pe_tupX (pa_cons (pv 1) (pa_cons (pv 2) pa_nil))) pa_nil)))))))), ?_⟩
  refine z_run (n := 1) hf hi ?_ k (cs_seq (cs_drop (ce_callX lx (ca_cons (ce_var 0) ca_nil) pq_need_lot))
      (cs_seq (cs_set (i := 3) (ce_call (ca_cons (ce_var 0) (ca_cons ce_str (ca_cons (ce_tup (ca_cons (ce_var 1) (ca_cons (ce_var 2) ca_nil))) ca_nil))) pu_why_not))
      (cs_seq (cs_if (ct_test (ce_op (co_s 3) (co_e ce_str) z_ne)) (cs_raiseN lx gC_BadTurn rn_BadTurn.ox rn_BadTurn.no (by decide) (ca_cons ce_int (ca_cons (ce_var 3) ca_nil))) cs_next)
      (cs_ret (ce_call (ca_cons (ce_var 0) (ca_cons (ce_tup (ca_cons (ce_var 1) (ca_cons (ce_var 2) ca_nil))) ca_nil)) pu_behind))))) ?_
  · rw [len_lot_turned ds R X hp0]; rfl
  clear hf hi k lx px tk
  clear hr hu64 hu G_behind b_behind kp_behind g_behind G_need_lot b_need_lot kp_need_lot g_need_lot G_why_not b_why_not kp_why_not g_why_not
  obtain ⟨d, e, f, rfl, ha, hx, k⟩ := hp0
  walk_at "z"
  refine ⟨d, rfl, ha, hx, fun r er h => ?_⟩
  subst er
  obtain ⟨he, hx2, k⟩ := k r rfl h
  have h40 := h.len
  walk_at "z"
  refine ⟨r, [], .tup [e, f], rfl, by omega, he, ?_⟩
  walk_at "z"
  walk_at "nes"
  by_cases hw : whyD r [] (.tup [e, f]) = []
  · rw [if_neg (by rw [hw]; decide)]
    obtain ⟨⟨q1, q2⟩, hq, hq2⟩ := whyD_ok hw
    have hq : Dt.tup [e, f] = dPr (q1, q2) := hq.resolve_right (by intro z; cases z)
    unfold dPr at hq
    injection hq with hq
    injection hq with e1 hq
    injection hq with e2 _
    subst e1 e2
    obtain ⟨w1, w2, _, _⟩ := whyM_iff.mp hq2
    walk_at "zz"
    refine ⟨r, _, q1, q2, rfl, rfl, by omega, w2, by omega, ?_⟩
    walk_at "z"
    exact k (q1, q2) rfl rfl hq2
  · rw [if_pos (by rw [decide_eq_false hw]; rfl)]
    walk_at "z"
    exact ⟨[.int 0, Tx (whyD r [] (.tup [e, f]))], rfl, rfl, hx2 hw⟩
theorem pq_lot_turned {mg : Str → Option Value} : PureOfX mg (spX mg pfx_lot_turned) pfx_lot_turned := pure_spX
abbrev N__law_dice : List Str := ["_law_script", "_law_k", "_law_found", "_law_cell"]
theorem sc__law_dice : FnScope N__law_dice ["_law_script", "_law_k"] (defScope s__law_dice) := ⟨rfl, rfl, rfl, by decide +kernel, rfl, by decide +kernel, by decide +kernel⟩
def sp__law_dice (K : PySem.W.Frag) : Sp := fun vs H Q _ => ∃ (a : Addr) (ns : List Int) (k : Int), vs = [.ref a, .int k] ∧ SqL K H a (ns.map V.int) ∧ ns.length ≤ 63 ∧ 0 ≤ k ∧ k < 2147483647 ∧
  ∀ p H', H p = none → Ex H H' → H' p = some (DiceO p) → Q (.ref p) H'
theorem ok__law_dice {P : Program} {w : World} {K : PySem.W.Frag} {mg : Str → Option Value} {base : Heap} (T : Txt K mg) : Has P w K mg base CX0 1 "_law_dice" ["_law_script", "_law_k"] (sp__law_dice K) := by
  obtain ⟨f, fd, g, F⟩ := T.f__law_dice
  refine ⟨f, fd, g, F.kp, F.bindsN (fun _ _ _ _ _ _ us hl => match us, hl with | [_, _], _ => rfl), F.ok sc__law_dice (fun vs H Q E h => ?_) (fun cdv A outer s H vs Q E hr h => ?_)⟩
  · repeat (first | (obtain ⟨e, _⟩ := h; exact congrArg List.length e) | (obtain ⟨_, h⟩ := h))
  have hu64 : (A.deeper (envOfC "_law_dice" (defScope s__law_dice) s.heap.objs.size f cdv)).units + 64 < cLine := hr.units
  refine ⟨_, PSs.nox (pss_close (pss_cons (ps_set (i := 2) sc__law_dice.nd rfl (Or.inl rfl) (pv 1))
      (pss_cons (ps_for PassesOwn.never rfl (pi_anyK (K := K) rfl (pv 0)) (pg_name (i := 3) sc__law_dice.nd rfl (Or.inl rfl)) (pss_one (ps_set (i := 2) sc__law_dice.nd rfl (Or.inl rfl) (pe_op op_modN (pe_op op_addU (pe_op op_mul (pv 2) pe_int) (pe_callB call_abs (by rfl) T.z_abs (by decide +kernel) (pa_cons (pv 3) pa_nil))) pe_int))))
      (pss_one (ps_ret (pe_op op_addU (pe_lstX (pa_cons (pv 2) (pa_cons pe_int pa_nil))) (pe_lc (own := [("_law_cell", 3)]) rfl sc__law_dice.nd (pi_anyK (K := K) rfl (pv 0)) (blkOk_by (own := [("_law_cell", 3)]) (N := N__law_dice) (sc := defScope s__law_dice) (by decide +kernel)) (fun _ _ _ _ _ => (pg_name (i := 3) sc__law_dice.nd rfl (Or.inl rfl))) (fun _ _ _ _ _ => (pts_cut (pts_one (pt_cmpR op_geU (pv 3) (pe_op op_pow pe_int pe_int) (nomark _))))) (fun _ _ _ _ _ => (pe_cut (pv 3)))))))))), ?_⟩
  obtain ⟨a, ns, k, rfl, ha, hn, k0, k1, kk⟩ := h
  unfold tClose
  (generalize hst : L2.start _ _ = st0; simp only [L2.start, N__law_dice, List.map_cons, List.map_nil, List.length_cons, List.length_nil, Nat.reduceAdd, Nat.reduceSub, List.replicate_succ, List.replicate_zero, List.cons_append, List.nil_append, List.append_nil] at hst; subst hst)
  walk_at "go"
  refine w_anyK ha ?_
  refine forX_list (xs := ns.map V.int) (fun i σ H' => ∃ (y : Int) (c : Option V), σ = [some (.ref a), some (.int k), some (.int y), c] ∧ H' = H ∧ 0 ≤ y ∧ y < 2147483647) ⟨k, none, rfl, rfl, k0, k1⟩ (fun i σ H' _ ⟨_, _, _, e, _⟩ => e ▸ ha) ?_ ?_
  · rintro i x σ H' hx ⟨y, c, rfl, rfl, y0, y1⟩
    simp at hx
    obtain ⟨z, hz, rfl⟩ := hx
    walk_at "go"
    refine ⟨_, _, rfl, rfl, ?_, ?_⟩
    · rw [Int.fmod_eq_emod_of_nonneg _ (by omega)]
      exact Int.emod_nonneg _ (by omega)
    · rw [Int.fmod_eq_emod_of_nonneg _ (by omega)]
      exact Int.emod_lt_of_pos _ (by omega)
  · rintro σ H' ⟨y, c, rfl, rfl, y0, y1⟩
    walk_at "go"
    rename_i p H2 hp e h2
    refine w_anyK (ex_l e ha) ?_
    refine lcX_1 walk_list (by simp; omega) (fun i => ((ns.take i).filter (fun z => decide (1000000000000000000 ≤ z))).map PyData.int) rfl (fun H'' e' => ex_l (e.trans e') ha) (fun v => rfl) ?_ ?_
    · rintro i x H1 H3 hi e' ⟨rfl, hx⟩
      simp at hx
      obtain ⟨z, hz, rfl⟩ := hx
      unfold LcStep
      walk_at "go"
      walk_at "br"
      · rename_i hc
        have hc' : (1000000000000000000 : Int) ≤ z := by simpa using hc
        walk_at "go"
        refine ⟨Ex.refl _, .int z, rfl, .int z, ?_⟩
        show _ = _
        rw [take_more hz]
        simp [hc']
      · rename_i hc
        refine ⟨Ex.refl _, ?_⟩
        have hc' : ¬ (1000000000000000000 : Int) ≤ z := by simpa using hc
        show _ = _
        rw [take_more hz]
        simp [hc']
    · intro q H3 acc hq e3 h3 r hl
      have hacc := rpall_ints r
      subst hacc
      simp only [List.length_map, List.take_length] at hl h3
      walk_at "go"
      rename_i p4 H4 hp4 e4 h4
      have f0 : H' p4 = none := by
        cases h : H' p4 with
        | none => rfl
        | some o => exact absurd hp4 (by rw [e3 _ _ (e _ _ h)]; simp)
      refine ⟨p4, y :: 0 :: ns.filter (fun z => decide (1000000000000000000 ≤ z)), by simpa using h4, ⟨by simp, by simp; omega, ?_, ?_⟩, ?_⟩
      · intro z hz
        simp at hz
        omega
      · intro z hz
        simp at hz
        omega
      · refine kk p4 _ f0 (Ex.mut (e.trans (e3.trans e4)) f0) upd_same
theorem use__law_dice {K : PySem.W.Frag} {a : Addr} {ns : List Int} {n : Int} {H : Hp} {Q : VK} {E : XK} (ha : SqL K H a (ns.map V.int)) (hn : ns.length ≤ 63) (h0 : 0 ≤ n ∧ n < 2147483647) (k : ∀ p H', H p = none → Ex H H' → H' p = some (DiceO p) → Q (.ref p) H') : sp__law_dice K [.ref a, .int n] H Q E := ⟨a, ns, n, rfl, ha, hn, h0.1, h0.2, k⟩
local macro_rules | `(tactic| walk_at "st") => `(tactic| ((with_reducible refine use__law_dice (ns := ?ns) ?ha ?hn ?h0 ?hk); (case ha => assumption); (case hn => assumption); (case h0 => constructor <;> walk_at "sz"); intro p H2 hp e h2))
abbrev N__law_off : List Str := ["_law_d", "_law_upto", "_law_found"]
theorem sc__law_off : FnScope N__law_off ["_law_d", "_law_upto"] (defScope s__law_off) := ⟨rfl, rfl, rfl, by decide +kernel, rfl, by decide +kernel, by decide +kernel⟩
def sp__law_off (K : PySem.W.Frag) : Sp := fun vs H Q _ => ∃ (a : Addr) (n : Int), vs = [.ref a, .int n] ∧ H a = some (DiceO a) ∧ 0 < n ∧ n < 1073741824 ∧ ∀ r : Nat, (r : Int) < n → Q (.int r) H
theorem ok__law_off {P : Program} {w : World} {K : PySem.W.Frag} {mg : Str → Option Value} {base : Heap} (T : Txt K mg) : Has P w K mg base CX0 1 "_law_off" ["_law_d", "_law_upto"] (sp__law_off K) := by
  obtain ⟨f, fd, g, F⟩ := T.f__law_off
  refine ⟨f, fd, g, F.kp, F.bindsN (fun _ _ _ _ _ _ us hl => match us, hl with | [_, _], _ => rfl), F.ok sc__law_off (fun vs H Q E h => ?_) (fun cdv A outer s H vs Q E hr h => ?_)⟩
  · repeat (first | (obtain ⟨e, _⟩ := h; exact congrArg List.length e) | (obtain ⟨_, h⟩ := h))
  have hu64 : (A.deeper (envOfC "_law_off" (defScope s__law_off) s.heap.objs.size f cdv)).units + 64 < cLine := hr.units
  refine ⟨_, PSs.nox (pss_open (pss_close (pss_cons (ps_cut (ps_if (pt_cut (PW.pt (pw_and (pt_cmpR (op_eqK (K := K) rfl hu64) (pe_ix (ix_K (K := K) rfl) (pv 0) pe_int (fun _ _ => rfl)) pe_int (nomark _)) (pw_and1 (pt_cmpR op_gtU (pe_callB (call_lenK (K := K) rfl) (by rfl) T.z_len PySem.boot_len (pa_cons (pv 0) pa_nil)) pe_int (nomark _)))))) (pss_one (ps_asg (pe_bmK (K := K) rfl PySem.F.plainAttrs_list PySem.F.slot_list_pop PySem.F.type_list_pop mt_popAt (pv 0) (pa_cons pe_int pa_nil)) (pg_sub (pv 0) pe_int set_list))) pss_nil))
      (pss_cons (ps_if (pt_cmpR op_gtU (pe_ix (ix_K (K := K) rfl) (pv 0) pe_int (fun _ _ => rfl)) pe_int (nomark _)) (pss_cons (ps_set (i := 2) sc__law_off.nd rfl (Or.inl rfl) (pe_op op_modN (pe_ix (ix_K (K := K) rfl) (pv 0) pe_int (fun _ _ => rfl)) (pv 1)))
      (pss_cons (ps_asg (pe_op op_fdivN (pe_ix (ix_K (K := K) rfl) (pv 0) pe_int (fun _ _ => rfl)) (pv 1)) (pg_sub (pv 0) pe_int set_list))
      (pss_one (ps_ret (pv 2))))) pss_nil)
      (pss_cons (ps_asg (pe_op op_modN (pe_op op_addU (pe_op op_mul (pe_ix (ix_K (K := K) rfl) (pv 0) pe_int (fun _ _ => rfl)) pe_int) pe_int) pe_int) (pg_sub (pv 0) pe_int set_list))
      (pss_one (ps_ret (pe_op op_modN (pe_op op_fdivN (pe_ix (ix_K (K := K) rfl) (pv 0) pe_int (fun _ _ => rfl)) pe_int) (pv 1))))))))), ?_⟩
  obtain ⟨a, n, rfl, ha, h0, h1, k⟩ := h
  refine ⟨a, ha, fun xs ok => ?_⟩
  unfold tClose
  (generalize hst : L2.start _ _ = st0; simp only [L2.start, N__law_off, List.map_cons, List.map_nil, List.length_cons, List.length_nil, Nat.reduceAdd, Nat.reduceSub, List.replicate_succ, List.replicate_zero, List.cons_append, List.nil_append, List.append_nil] at hst; subst hst)
  obtain ⟨x0, x1, rest, rfl⟩ : ∃ x0 x1 rest, xs = x0 :: x1 :: rest := by
    have h2 := ok.two
    match xs, h2 with
    | x0 :: x1 :: rest, _ => exact ⟨x0, x1, rest, rfl⟩
  have p0 : 0 ≤ x0 := ok.pos _ (by simp)
  have p1 : 0 ≤ x1 := ok.pos _ (by simp)
  have s0 : x0 < 2147483647 := ok.seed _ rfl
  have pr : ∀ y ∈ rest, 0 ≤ y := fun y hy => ok.pos _ (by simp [hy])
  have ml : rest.length ≤ 998 := by have := ok.most; simp at this; omega
  have fin : ∀ (y0 y1 : Int) (ys : List Int) (r : Int), 0 ≤ r → r < n → 0 ≤ y0 → y0 < 2147483647 → 0 ≤ y1 → (∀ y ∈ ys, 0 ≤ y) → ys.length ≤ 998 →
      closeK Q (.int r) (upd H a (.lst ((y0 :: y1 :: ys).map V.int))) := fun y0 y1 ys r hr0 hr hy0 hy0' hy1 hys hl => by
    refine ⟨a, _, upd_same, ⟨by simp, by simp; omega, ?_, ?_⟩, ?_⟩
    · intro z hz
      rcases List.mem_cons.mp hz with rfl | hz
      · exact hy0
      · rcases List.mem_cons.mp hz with rfl | hz
        · exact hy1
        · exact hys z hz
    · intro z hz; simp at hz; omega
    · have e : upd (upd H a (.lst ((y0 :: y1 :: ys).map V.int))) a (DiceO a) = H := by
        rw [upd_upd]
        funext b
        unfold upd
        split
        · rename_i e; rw [e, ha]
        · rfl
      rw [e]
      have er : r = (r.toNat : Int) := by omega
      rw [er]
      exact k _ (by omega)
  have mod0 : ∀ y : Int, 0 ≤ y → 0 ≤ y.fmod n ∧ y.fmod n < n := fun y hy => by
    rw [Int.fmod_eq_emod_of_nonneg _ (by omega)]
    exact ⟨Int.emod_nonneg _ (by omega), Int.emod_lt_of_pos _ h0⟩
  have div0 : ∀ y : Int, 0 ≤ y → 0 ≤ y.fdiv n := fun y hy => by
    rw [Int.fdiv_eq_ediv_of_nonneg _ (by omega)]
    exact Int.ediv_nonneg hy (by omega)
  have cd : ∀ y, CDivN y n := fun y => ⟨by omega, by omega⟩
  have c64 : ∀ y : Int, CDivN y 64 := fun y => ⟨by omega, by decide⟩
  have seed : ∀ y : Int, 0 ≤ y → 0 ≤ (y * 48271 + 11).fmod 2147483647 ∧ (y * 48271 + 11).fmod 2147483647 < 2147483647 := fun y hy => by
    rw [Int.fmod_eq_emod_of_nonneg _ (by omega)]
    exact ⟨Int.emod_nonneg _ (by omega), Int.emod_lt_of_pos _ (by omega)⟩
  have half : ∀ y : Int, 0 ≤ y → 0 ≤ y.fdiv 64 := fun y hy => by
    rw [Int.fdiv_eq_ediv_of_nonneg _ (by omega)]
    exact Int.ediv_nonneg hy (by omega)
  walk_at "gx"
  refine w_cutS0 ?_
  walk_at "gx"
  refine w_cutT0 ?_
  walk_at "gx"
  walk_at "br"
  · walk_at "gx"
    walk_at "br"
    · rename_i _ hl
      obtain ⟨x2, rest, rfl⟩ : ∃ x2 r, rest = x2 :: r := by
        match rest, hl with
        | x2 :: r, _ => exact ⟨x2, r, rfl⟩
      have p2 : 0 ≤ x2 := pr _ (by simp)
      walk_at "gx"
      refine ⟨.inl ⟨rfl, _, SqL.of upd_same⟩, ?_⟩
      walk_at "gx"
      refine ⟨a, _, 2, 2, _, rfl, rfl, upd_same, by decide, by decide, ?_, rfl, ?_⟩
      · exact (ixN_seq (by unfold ixN; rw [if_pos (by decide), if_pos (by simp; omega)]; rfl)).1
      walk_at "gx"
      refine ⟨a, _, 1, 1, rfl, rfl, upd_same, ?_, ?_⟩
      · unfold ixN; rw [if_pos (by decide), if_pos (by simp [List.eraseIdx]; omega)]; rfl
      rw [upd_upd, upd_upd]
      simp only [List.map_cons, List.eraseIdx, List.set]
      walk_at "gx"
      walk_at "br"
      · walk_at "gx"
        refine ⟨a, _, 1, 1, rfl, rfl, upd_same, ?_, ?_⟩
        · unfold ixN; rw [if_pos (by decide), if_pos (by simp; omega)]; rfl
        rw [upd_upd]
        simp only [List.map_cons, List.set]
        walk_at "gx"
        exact fin x0 _ rest _ (mod0 _ p2).1 (mod0 _ p2).2 p0 s0 (div0 _ p2) (fun y hy => pr y (by simp [hy])) (by simp at ml; omega)
      · walk_at "gx"
        refine ⟨a, _, 0, 0, rfl, rfl, upd_same, ?_, ?_⟩
        · unfold ixN; rw [if_pos (by decide), if_pos (by simp; omega)]; rfl
        rw [upd_upd]
        simp only [List.map_cons, List.set]
        walk_at "gx"
        exact fin _ _ rest _ (mod0 _ (half _ (seed _ p0).1)).1 (mod0 _ (half _ (seed _ p0).1)).2 (seed _ p0).1 (seed _ p0).2 p2 (fun y hy => pr y (by simp [hy])) (by simp at ml; omega)
    · walk_at "gx"
      walk_at "br"
      · omega
      · walk_at "gx"
        refine ⟨a, _, 0, 0, rfl, rfl, upd_same, ?_, ?_⟩
        · unfold ixN; rw [if_pos (by decide), if_pos (by simp; omega)]; rfl
        rw [upd_upd]
        simp only [List.map_cons, List.set]
        walk_at "gx"
        exact fin _ _ rest _ (mod0 _ (half _ (seed _ p0).1)).1 (mod0 _ (half _ (seed _ p0).1)).2 (seed _ p0).1 (seed _ p0).2 p1 pr ml
  · walk_at "ff"
    walk_at "gx"
    walk_at "br"
    · walk_at "gx"
      refine ⟨a, _, 1, 1, rfl, rfl, upd_same, ?_, ?_⟩
      · unfold ixN; rw [if_pos (by decide), if_pos (by simp; omega)]; rfl
      rw [upd_upd]
      simp only [List.map_cons, List.set]
      walk_at "gx"
      exact fin x0 _ rest _ (mod0 _ p1).1 (mod0 _ p1).2 p0 s0 (div0 _ p1) pr ml
    · omega
theorem use__law_off {K : PySem.W.Frag} {a : Addr} {n : Int} {H : Hp} {Q : VK} {E : XK} (ha : H a = some (DiceO a)) (h0 : 0 < n ∧ n < 1073741824) (k : ∀ r : Nat, (r : Int) < n → Q (.int r) H) : sp__law_off K [.ref a, .int n] H Q E := ⟨a, n, rfl, ha, h0.1, h0.2, k⟩
local macro_rules | `(tactic| walk_at "st") => `(tactic| ((with_reducible refine use__law_off ?ha ?h0 ?hk); (case ha => walk_at "lift"); (case h0 => constructor <;> walk_at "sz"); intro r hr))
def pf__law_off : PF := fun ds R => ∃ n : Int, ds = [.dice, .int n] ∧ 0 < n ∧ n < 1073741824 ∧ ∀ r : Nat, (r : Int) < n → R false (.int r)
theorem pu__law_off {K : PySem.W.Frag} {E : XK} : PureOf (sp__law_off K) pf__law_off E := by
  rintro c L H vs ds Q R h hf ⟨n, rfl, h1, h2, hr⟩ k
  obtain ⟨v, ws, rfl, ⟨a, rfl, _, ha⟩, v2, ws2, rfl, e2, e3⟩ := hf
  cases e2; cases e3
  exact ⟨a, n, rfl, ha, h1, h2, fun r hn => k _ _ _ _ (hr r hn) (sub_int h (Ex.refl _) _)⟩
abbrev N__law_row : List Str := ["_law_d", "_law_signs_here", "_law_most", "_law_many", "_law_often", "_law_thick", "_law_row_here", "_law_k", "_law_sign"]
theorem sc__law_row : FnScope N__law_row ["_law_d", "_law_signs_here", "_law_most"] (defScope s__law_row) := ⟨rfl, rfl, rfl, by decide +kernel, rfl, by decide +kernel, by decide +kernel⟩
def sp__law_row (K : PySem.W.Frag) : Sp := fun vs H Q _ => ∃ (a : Addr) (v : V) (ss : List Nat) (m : Int), vs = [.ref a, v, .int m] ∧ H a = some (DiceO a) ∧ SignSeq H v ss ∧ ss ≠ [] ∧ ss.length ≤ 100 ∧ 0 < m ∧ m ≤ 1000 ∧
  ∀ row : List Nat, 1 ≤ row.length → (row.length : Int) ≤ m → (∀ c ∈ row, c ∈ ss) → Q (Tx row) H
theorem ok__law_row {P : Program} {w : World} {K : PySem.W.Frag} {mg : Str → Option Value} {base : Heap} (T : Txt K mg) : Has P w K mg base CX0 2 "_law_row" ["_law_d", "_law_signs_here", "_law_most"] (sp__law_row K) := by
  obtain ⟨f, fd, g, F⟩ := T.f__law_row
  obtain ⟨f__law_off, fd__law_off, g__law_off, kp__law_off, b__law_off, G__law_off⟩ := (ok__law_off (P := P) (w := w) (K := K) (mg := mg) (base := base) T).ex
  refine ⟨f, fd, g, F.kp, F.bindsN (fun _ _ _ _ _ _ us hl => match us, hl with | [_, _, _], _ => rfl), F.ok sc__law_row (fun vs H Q E h => ?_) (fun cdv A outer s H vs Q E hr h => ?_)⟩
  · repeat (first | (obtain ⟨e, _⟩ := h; exact congrArg List.length e) | (obtain ⟨_, h⟩ := h))
  have hu64 : (A.deeper (envOfC "_law_row" (defScope s__law_row) s.heap.objs.size f cdv)).units + 64 < cLine := hr.units
  refine ⟨_, PSs.nox ((pss_cons (ps_set (i := 3) sc__law_row.nd rfl (Or.inl rfl) (pe_op op_addU pe_int (pe_call G__law_off (hr.mono (by decide)) rfl g__law_off kp__law_off b__law_off .nil pass0 (pa_cons (pv 0) (pa_cons (pv 2) pa_nil)))))
      (pss_cons (ps_set (i := 4) sc__law_row.nd rfl (Or.inl rfl) (pe_ix (ix_K (K := K) rfl) (pv 1) (pe_call G__law_off (hr.mono (by decide)) rfl g__law_off kp__law_off b__law_off .nil pass0 (pa_cons (pv 0) (pa_cons (pe_callB (call_lenK (K := K) rfl) (by rfl) T.z_len PySem.boot_len (pa_cons (pv 1) pa_nil)) pa_nil))) (fun _ _ => rfl)))
      (pss_cons (ps_set (i := 5) sc__law_row.nd rfl (Or.inl rfl) (pe_call G__law_off (hr.mono (by decide)) rfl g__law_off kp__law_off b__law_off .nil pass0 (pa_cons (pv 0) (pa_cons pe_int pa_nil))))
      (pss_cons (ps_set (i := 6) sc__law_row.nd rfl (Or.inl rfl) (pe_strL (l := []) (by decide +kernel)))
      (pss_cons (ps_for PassesOwn.never rfl (pi_range1 (by rfl) T.z_range (pa_cons (pv 3) pa_nil)) (pg_name (i := 7) sc__law_row.nd rfl (Or.inl rfl)) (pss_cons (ps_set (i := 8) sc__law_row.nd rfl (Or.inl rfl) (pe_ix (ix_K (K := K) rfl) (pv 1) (pe_call G__law_off (hr.mono (by decide)) rfl g__law_off kp__law_off b__law_off .nil pass0 (pa_cons (pv 0) (pa_cons (pe_callB (call_lenK (K := K) rfl) (by rfl) T.z_len PySem.boot_len (pa_cons (pv 1) pa_nil)) pa_nil))) (fun _ _ => rfl)))
      (pss_one (ps_set (i := 6) sc__law_row.nd rfl (Or.inl rfl) (pe_op op_addU (pv 6) (pe_cut (pe_ifExp (pt_cut (PW.pt (pw_and (pt_cmpR (op_eqK (K := K) rfl hu64) (pv 5) pe_int (nomark _)) (pw_and1 (pt_cmpR (op_eqK (K := K) rfl hu64) (pe_op op_modN (pv 7) pe_int) pe_int (nomark _)))))) (pv 4) (pv 8))))))))
      (pss_one (ps_ret (pv 6))))))))), ?_⟩
  obtain ⟨a, v, ss, m, rfl, ha, hv, hne, hl, m0, m1, k⟩ := h
  (generalize hst : L2.start _ _ = st0; simp only [L2.start, N__law_row, List.map_cons, List.map_nil, List.length_cons, List.length_nil, Nat.reduceAdd, Nat.reduceSub, List.replicate_succ, List.replicate_zero, List.cons_append, List.nil_append, List.append_nil] at hst; subst hst)
  have hss : 0 < ss.length := List.length_pos_iff.mpr hne
  walk_at "go"
  rename_i many hmany
  refine w_lenQ hv (by walk_at "sz") ?_
  walk_at "go"
  rename_i r1 hr1
  refine w_ixQ hv (by walk_at "sz") (by omega) hr1 fun often hoften => ?_
  walk_at "go"
  rename_i thick hthick
  have hof : often ∈ ss := List.mem_of_getElem? hoften
  refine forX_range0 (fun i σ H' => ∃ (row : List Nat) (x1 x2 : Option V), σ = [some (.ref a), some v, some (.int m), some (.int (1 + (many : Int))), some (Tx [often]), some (.int (thick : Int)), some (Tx row), x1, x2] ∧ H' = H ∧ row.length = i ∧ ∀ c ∈ row, c ∈ ss)
    ⟨[], none, none, rfl, rfl, rfl, by simp⟩ ?_ ?_
  · rintro i σ H' hi ⟨row, x1, x2, rfl, rfl, hrow, hin⟩
    walk_at "go"
    refine w_lenQ hv (by walk_at "sz") ?_
    walk_at "go"
    rename_i r2 hr2
    refine w_ixQ hv (by walk_at "sz") (by omega) hr2 fun sign hsign => ?_
    have hsg : sign ∈ ss := List.mem_of_getElem? hsign
    walk_at "go"
    refine w_cutE (fun v H'' => H'' = H' ∧ ∃ c ∈ ss, v = Tx [c]) ?_ ?_
    · walk_at "go"
      refine w_cutT (fun b H'' => H'' = H') ?_ ?_
      · walk_at "go"
        walk_at "br"
        · walk_at "go"
          rfl
        · rfl
      · rintro b H'' rfl
        walk_at "br"
        · walk_at "go"
          exact ⟨rfl, _, hof, rfl⟩
        · walk_at "go"
          exact ⟨rfl, _, hsg, rfl⟩
    · rintro v H'' ⟨rfl, c, hc, rfl⟩
      walk_at "go"
      refine ⟨row ++ [c], _, _, rfl, rfl, by simp [hrow], ?_⟩
      intro d hd
      rcases List.mem_append.mp hd with hd | hd
      · exact hin d hd
      · simp at hd; subst hd; exact hc
  · rintro σ H' ⟨row, x1, x2, rfl, rfl, hrow, hin⟩
    walk_at "go"
    exact k row (by omega) (by omega) hin
theorem use__law_row {K : PySem.W.Frag} {a : Addr} {v : V} {ss : List Nat} {m : Int} {H : Hp} {Q : VK} {E : XK} (ha : H a = some (DiceO a)) (hv : SignSeq H v ss) (hne : ss ≠ []) (hl : ss.length ≤ 100) (hm : 0 < m ∧ m ≤ 1000)
  (k : ∀ row : List Nat, 1 ≤ row.length → (row.length : Int) ≤ m → (∀ c ∈ row, c ∈ ss) → Q (Tx row) H) : sp__law_row K [.ref a, v, .int m] H Q E := ⟨a, v, ss, m, rfl, ha, hv, hne, hl, hm.1, hm.2, k⟩
theorem use__law_rowT {K : PySem.W.Frag} {a : Addr} {ss : List Nat} {m : Int} {H : Hp} {Q : VK} {E : XK} (ha : H a = some (DiceO a)) (hne : ss ≠ []) (hl : ss.length ≤ 100) (hm : 0 < m ∧ m ≤ 1000)
  (k : ∀ row : List Nat, 1 ≤ row.length → (row.length : Int) ≤ m → (∀ c ∈ row, c ∈ ss) → Q (Tx row) H) : sp__law_row K [.ref a, Tx ss, .int m] H Q E := use__law_row ha (.inl rfl) hne hl hm k
local macro_rules | `(tactic| walk_at "st") => `(tactic| ((with_reducible refine use__law_rowT ?ha ?hne ?hl ?hm ?hk); (case ha => walk_at "lift"); (case hne => first | assumption | decide); (case hl => walk_at "sz"); (case hm => constructor <;> walk_at "sz"); intro row hrow1 hrow2 hrow3))
def pf__law_row : PF := fun ds R => ∃ (d : Dt) (ss : List Nat) (m : Int), ds = [.dice, d, .int m] ∧ (d = .str ss ∨ d = .lst (ss.map fun ch => .str [ch])) ∧ ss ≠ [] ∧ ss.length ≤ 100 ∧ 0 < m ∧ m ≤ 1000 ∧
  ∀ row : List Nat, 1 ≤ row.length → (row.length : Int) ≤ m → (∀ c ∈ row, c ∈ ss) → R false (.str row)
theorem pu__law_row {K : PySem.W.Frag} {E : XK} : PureOf (sp__law_row K) pf__law_row E := by
  rintro c L H vs ds Q R h hf ⟨d, ss, m, rfl, hd, h1, h2, h3, h4, hr⟩ k
  obtain ⟨v, ws, rfl, ⟨a, rfl, _, ha⟩, v2, ws2, rfl, e2, v3, ws3, rfl, e3, e4⟩ := hf
  cases e3; cases e4
  refine ⟨a, v2, ss, m, rfl, ha, ?_, h1, h2, h3, h4, fun row r1 r2 r3 => k _ _ _ _ (hr row r1 r2 r3) (sub_str h (Ex.refl _) _)⟩
  rcases hd with rfl | rfl
  · exact .inl e2
  · obtain ⟨p, xs, rfl, _, g1, g2⟩ := e2
    have := FrAll.strs_inv (l := ss.map fun ch => [ch]) (by rw [List.map_map]; exact g2)
    rw [List.map_map] at this
    exact .inr ⟨p, rfl, by rw [g1, this]; rfl⟩
abbrev N__law_lot : List Str := ["_law_d", "_law_signs_here", "_law_most", "_law_rows", "_law_lot_here", "_law_left", "_law_k", "_law_row_here"]
theorem sc__law_lot : FnScope N__law_lot ["_law_d", "_law_signs_here", "_law_most", "_law_rows"] (defScope s__law_lot) := ⟨rfl, rfl, rfl, by decide +kernel, rfl, by decide +kernel, by decide +kernel⟩
def pf__law_lot : PF := fun ds R => ∃ (d : Dt) (ss : List Nat) (most many : Nat), ds = [.dice, d, .int (most : Int), .int (many : Int)] ∧ (d = .str ss ∨ d = .lst (ss.map fun ch => .str [ch])) ∧ ss ≠ [] ∧ ss.length ≤ 8 ∧ (∀ c ∈ ss, c ∈ abcS) ∧ 1 ≤ most ∧ most ≤ 34 ∧ 1 ≤ many ∧ many ≤ 5 ∧ ∀ rs, RsOk rs → rs ≠ [] → rs.length ≤ many → (rs.map (·.length)).sum ≤ most → (∀ r ∈ rs, ∀ c ∈ r, c ∈ ss) → R false (.str (lotT rs))
theorem len__law_lot : ∀ ds R, pf__law_lot ds R → ds.length = 4 := by
  intro ds R h
  (repeat (first | (obtain ⟨e, _⟩ := h; exact congrArg List.length e) | (obtain ⟨_, h⟩ := h)))
theorem ok__law_lot {P : Program} {w : World} {K : PySem.W.Frag} {mg : Str → Option Value} {base : Heap} (T : Txt K mg) : Has P w K mg base CX0 3 "_law_lot" ["_law_d", "_law_signs_here", "_law_most", "_law_rows"] (spZ pf__law_lot) := by
  obtain ⟨f, fd, g, F⟩ := T.f__law_lot
  obtain ⟨f__law_off, fd__law_off, g__law_off, kp__law_off, b__law_off, G__law_off⟩ := (ok__law_off (P := P) (w := w) (K := K) (mg := mg) (base := base) T).ex
  obtain ⟨f__law_row, fd__law_row, g__law_row, kp__law_row, b__law_row, G__law_row⟩ := (ok__law_row (P := P) (w := w) (K := K) (mg := mg) (base := base) T).ex
  refine ⟨f, fd, g, F.kp, F.bindsN (fun _ _ _ _ _ _ us hl => match us, hl with | [_, _, _, _], _ => rfl), F.ok sc__law_lot (fun vs H Q E h => spZ_len (len__law_lot) (K := K) vs H Q E h) (fun cdv A outer s H vs Q E hr h => ?_)⟩
  have hu64 : (A.deeper (envOfC "_law_lot" (defScope s__law_lot) s.heap.objs.size f cdv)).units + 64 < cLine := hr.units
  have hu : (A.deeper (envOfC "_law_lot" (defScope s__law_lot) s.heap.objs.size f cdv)).units + 1 < cLine := by omega
  obtain ⟨A0, Zd0, ds, R, hf, hi, hp0, k⟩ := h
  refine ⟨_, PSs.nox ((pss_cons (ps_par (i := 4) (j := 5) (by rfl) sc__law_lot.nd rfl rfl (by decide) rfl rfl (pa_cons (pe_strL (l := [124]) (by decide +kernel)) (pa_cons (pv 2) pa_nil)) (by rfl))
      (pss_cons (ps_for PassesOwn.never rfl (pi_range1 (by rfl) T.z_range (pa_cons (pe_op op_addZ pe_int (pe_call G__law_off (hr.mono (by decide)) rfl g__law_off kp__law_off b__law_off .nil pass0 (pa_cons (pv 0) (pa_cons (pv 3) pa_nil)))) pa_nil)) (pg_name (i := 6) sc__law_lot.nd rfl (Or.inl rfl)) (pss_one (ps_cut (ps_if (pt_cmpR op_gtU (pv 5) pe_int (nomark _)) (pss_cons (ps_set (i := 7) sc__law_lot.nd rfl (Or.inl rfl) (pe_call G__law_row (hr.mono (by decide)) rfl g__law_row kp__law_row b__law_row .nil pass0 (pa_cons (pv 0) (pa_cons (pv 1) (pa_cons (pv 5) pa_nil)))))
      (pss_one (ps_par (i := 4) (j := 5) (by rfl) sc__law_lot.nd rfl rfl (by decide) rfl rfl (pa_cons (pe_op op_addZ (pe_op op_addZ (pv 4) (pv 7)) (pe_strL (l := [124]) (by decide +kernel))) (pa_cons (pe_op op_sub (pv 5) (pe_callB (call_lenK (K := K) rfl) (by rfl) T.z_len PySem.boot_len (pa_cons (pv 7) pa_nil))) pa_nil)) (by rfl)))) pss_nil))))
      (pss_one (ps_ret (pv 4)))))), ?_⟩
  refine z_run (n := 4) hf hi ?_ k (cs_seq (cs_par ce_str (ce_var 2))
      (cs_seq (cs_for (vs := [6]) (ci_rng1 (ce_op (co_e ce_int) (co_e (ce_call (ca_cons (ce_var 0) (ca_cons (ce_var 3) ca_nil)) pu__law_off)) z_add)) (cg_name (by decide)) (cs_cut0 (cs_if (ct_test (ce_op (co_s 5) (co_e ce_int) z_gt)) (cs_seq (cs_set (i := 7) (ce_call (ca_cons (ce_var 0) (ca_cons (ce_var 1) (ca_cons (ce_var 5) ca_nil))) pu__law_row))
      (cs_par (ce_op (co_e (ce_op (co_s 4) (co_s 7) z_add)) (co_e ce_str) z_add) (ce_op (co_s 5) (co_e (ce_cb1 (co_s 7) z_len)) z_sub))) cs_next)))
      (cs_ret (ce_var 4)))) ?_
  · rw [len__law_lot ds R hp0]; rfl
  clear hf hi k
  clear hr hu64 hu G__law_off b__law_off kp__law_off g__law_off G__law_row b__law_row kp__law_row g__law_row
  obtain ⟨d, ss, most, many, rfl, hd, s1, s2, s3, m1, m2, n1, n2, k⟩ := hp0
  walk_at "z"
  walk_at "for"
  refine ⟨many, rfl, by omega, by omega, fun n hn => ?_⟩
  walk_at "z"
  refine ⟨⟨by omega, by omega⟩, ?_⟩
  have hnn : (1 + (n : Int)).toNat = n + 1 := by omega
  rw [hnn]
  refine for_l (List.range (n + 1)) (fun i => .int (i : Int)) (fun i s => ∃ (rs : List (List Nat)) (left : Nat) (x6 x7 : Sl), s = [.fz .dice, .fz d, .fz (.int (most : Int)), .fz (.int (many : Int)), .fz (.str (lotT rs)), .fz (.int (left : Int)), x6, x7] ∧ RsOk rs ∧ rs.length ≤ i ∧ (rs.map (·.length)).sum + left = most ∧ (∀ r ∈ rs, ∀ c ∈ r, c ∈ ss) ∧ (rs = [] → i = 0)) rfl ⟨[], most, _, _, rfl, fun r hr => (by cases hr), Nat.le_refl _, by simp, fun r hr => (by cases hr), fun _ => rfl⟩ ?_ ?_
  · rintro i x s hx ⟨rs, left, x6, x7, rfl, r1, r2, r3, r4, r5⟩
    obtain rfl : x = i := by simpa using (List.getElem?_eq_some_iff.mp hx).2.symm
    have hxn : x < n + 1 := by simpa using (List.getElem?_eq_some_iff.mp hx).1
    clear hx
    walk_at "z"
    by_cases c0 : 0 < left
    · rw [if_pos (decide_eq_true (by omega))]
      walk_at "z"
      refine ⟨d, ss, (left : Int), rfl, hd, s1, by omega, by omega, by omega, fun row q1 q2 q3 => ?_⟩
      have hll := lot_len rs
      walk_at "zz"
      have e : lotT rs ++ row ++ [124] = lotT (rs ++ [row]) := (lotT_snoc rs row).symm
      rw [e]
      refine ⟨rs ++ [row], left - row.length, _, _, by rw [show ((left - row.length : Nat) : Int) = (left : Int) - (row.length : Int) by omega], fun r hr => ?_, by rw [List.length_append]; simp; omega, by rw [List.map_append, List.sum_append]; simp; omega, fun r hr => ?_, fun z => by simp at z⟩
      · rcases List.mem_append.mp hr with hr | hr
        · exact r1 r hr
        · rw [List.mem_singleton.mp hr]
          exact ⟨by rintro rfl; simp at q1, fun c hc => s3 c (q3 c hc)⟩
      · rcases List.mem_append.mp hr with hr | hr
        · exact r4 r hr
        · rw [List.mem_singleton.mp hr]
          exact q3
    · rw [if_neg (by rw [decide_eq_false (by omega)]; decide)]
      walk_at "z"
      refine ⟨rs, left, _, _, rfl, r1, by omega, r3, r4, fun z => ?_⟩
      subst z
      simp at r3
      omega
  · rintro s ⟨rs, left, x6, x7, rfl, r1, r2, r3, r4, r5⟩
    rw [List.length_range] at r2 r5
    walk_at "z"
    exact k rs r1 (fun z => by have := r5 z; omega) (by omega) (by omega) r4
theorem pu__law_lot {E : XK} : PureOf (spZ pf__law_lot) pf__law_lot E := pure_spZ
abbrev N__law_mixed : List Str := ["_law_d", "_law_row_here", "_law_left", "_law_found"]
theorem sc__law_mixed : FnScope N__law_mixed ["_law_d", "_law_row_here"] (defScope s__law_mixed) := ⟨rfl, rfl, rfl, by decide +kernel, rfl, by decide +kernel, by decide +kernel⟩
def sp__law_mixed (K : PySem.W.Frag) : Sp := fun vs H Q _ => ∃ (a p : Addr) (xs : List V), vs = [.ref a, .ref p] ∧ H a = some (DiceO a) ∧ H p = some (.lst xs) ∧ xs.length ≤ 1000 ∧ (∀ x ∈ xs, ∃ d, okD 60 d ∧ Rp H x d) ∧
  ∀ q ys H', ys.Perm xs → H q = none → Ex H H' → H' q = some (.lst ys) → Q (.ref q) H'
theorem ok__law_mixed {P : Program} {w : World} {K : PySem.W.Frag} {mg : Str → Option Value} {base : Heap} (T : Txt K mg) : Has P w K mg base CX0 2 "_law_mixed" ["_law_d", "_law_row_here"] (sp__law_mixed K) := by
  obtain ⟨f, fd, g, F⟩ := T.f__law_mixed
  obtain ⟨f__law_off, fd__law_off, g__law_off, kp__law_off, b__law_off, G__law_off⟩ := (ok__law_off (P := P) (w := w) (K := K) (mg := mg) (base := base) T).ex
  refine ⟨f, fd, g, F.kp, F.bindsN (fun _ _ _ _ _ _ us hl => match us, hl with | [_, _], _ => rfl), F.ok sc__law_mixed (fun vs H Q E h => ?_) (fun cdv A outer s H vs Q E hr h => ?_)⟩
  · repeat (first | (obtain ⟨e, _⟩ := h; exact congrArg List.length e) | (obtain ⟨_, h⟩ := h))
  have hu64 : (A.deeper (envOfC "_law_mixed" (defScope s__law_mixed) s.heap.objs.size f cdv)).units + 64 < cLine := hr.units
  refine ⟨_, PSs.nox ((pss_cons (ps_set (i := 2) sc__law_mixed.nd rfl (Or.inl rfl) (pe_callTy (call_listK (K := K) rfl rfl) (by rfl) T.z_list (by decide +kernel) (pa_cons (pv 1) pa_nil)))
      (pss_cons (ps_set (i := 3) sc__law_mixed.nd rfl (Or.inl rfl) (pe_lstX pa_nil))
      (pss_cons (ps_while PassesOwn.never (pt_cut (pt_cmpR (op_neK (K := K) rfl hu64) (pv 2) (pe_lstX pa_nil) (nomark _))) (pss_one (ps_expr (pe_bmK (K := K) rfl PySem.F.plainAttrs_list PySem.F.slot_list_append PySem.F.type_list_append mt_append (pv 3) (pa_cons (pe_bmK (K := K) rfl PySem.F.plainAttrs_list PySem.F.slot_list_pop PySem.F.type_list_pop mt_popAt (pv 2) (pa_cons (pe_call G__law_off (hr.mono (by decide)) rfl g__law_off kp__law_off b__law_off .nil pass0 (pa_cons (pv 0) (pa_cons (pe_callB (call_lenK (K := K) rfl) (by rfl) T.z_len PySem.boot_len (pa_cons (pv 2) pa_nil)) pa_nil))) pa_nil)) pa_nil)))))
      (pss_one (ps_ret (pv 3))))))), ?_⟩
  obtain ⟨a, p, xs, rfl, ha, hp, hl, hx, k⟩ := h
  (generalize hst : L2.start _ _ = st0; simp only [L2.start, N__law_mixed, List.map_cons, List.map_nil, List.length_cons, List.length_nil, Nat.reduceAdd, Nat.reduceSub, List.replicate_succ, List.replicate_zero, List.cons_append, List.nil_append, List.append_nil] at hst; subst hst)
  walk_at "go"
  rename_i p1 H1 hp1 e1 h1 p2 H2 hp2 e2 h2
  have n12 : p1 ≠ p2 := by rintro rfl; rw [h1] at hp2; cases hp2
  have fr : H p2 = none := by
    cases h : H p2 with
    | none => rfl
    | some o => rw [e1 _ _ h] at hp2; cases hp2
  refine w_while (fun m σ H' => ∃ ls fs, σ = [some (.ref a), some (.ref p), some (.ref p1), some (.ref p2)] ∧ Ex H H' ∧ H' p1 = some (.lst ls) ∧ H' p2 = some (.lst fs) ∧ (fs ++ ls).Perm xs ∧ m = ls.length) xs.length
    ⟨xs, [], rfl, e1.trans e2, e2 _ _ h1, h2, by simp, rfl⟩ ?_
  rintro m σ H' ⟨ls, fs, rfl, e, hL, hF, pm, rfl⟩
  have hmem : ∀ x ∈ ls, ∃ d, okD 60 d ∧ Rp H' x d := fun x hx' => by
    obtain ⟨d, h1, h2⟩ := hx x (pm.mem_iff.mp (by simp [hx']))
    exact ⟨d, h1, h2.ex e⟩
  obtain ⟨ds, rds, okds⟩ := rpall_of hmem
  have hlen : ls.length + fs.length ≤ 1000 := by
    have := pm.length_eq
    simp at this; omega
  have na1 : a ≠ p1 := ne_of_none ha hp1
  have na2 : a ≠ p2 := ne_of_none ha fr
  walk_at "go"
  rename_i p3 H3 hp3 e3 h3
  have L3 : H3 p1 = some (.lst ls) := e3 _ _ hL
  refine w_neD (.lst L3 (rds.ex e3)) (.lst h3 .nil) (okD_list okds).shaped rfl ?_
  rw [eqv_nil]
  walk_at "go"
  have hem : ds.isEmpty = ls.isEmpty := by
    have := rds.length
    cases ds <;> cases ls <;> simp_all
  rw [hem]
  cases ls with
  | nil =>
    walk_at "ff"
    walk_at "go"
    refine k _ fs _ (by simpa using pm) fr (e.trans e3) (e3 _ _ hF)
  | cons y ls =>
    walk_at "tt"
    walk_at "go"
    rename_i r hr H4 v hv e4 h4 H5 e5 h5
    have hr' : r < (y :: ls).length := by omega
    refine ⟨_, ?_, (y :: ls).eraseIdx r, fs ++ [v], rfl, Ex.but (Ex.but (Ex.trans e e3) e4 hp1) e5 fr, e5 _ _ n12 h4, h5, ?_, rfl⟩
    · rw [List.length_eraseIdx, if_pos hr']; simp
    · refine List.Perm.trans ?_ pm
      rw [List.append_assoc]
      refine List.Perm.append_left fs ?_
      exact erase_perm _ _ _ hv
theorem use__law_mixed {K : PySem.W.Frag} {a p : Addr} {xs : List V} {H : Hp} {Q : VK} {E : XK} (ha : H a = some (DiceO a)) (hp : H p = some (.lst xs)) (hl : xs.length ≤ 1000) (hx : ∀ x ∈ xs, ∃ d, okD 60 d ∧ Rp H x d)
  (k : ∀ q ys H', ys.Perm xs → H q = none → Ex H H' → H' q = some (.lst ys) → Q (.ref q) H') : sp__law_mixed K [.ref a, .ref p] H Q E := ⟨a, p, xs, rfl, ha, hp, hl, hx, k⟩
local macro_rules | `(tactic| walk_at "st") => `(tactic| ((with_reducible refine use__law_mixed (xs := ?xs) ?ha ?hp ?hl ?hx ?hk); (case ha => walk_at "lift"); (case hp => walk_at "lift"); (case hl => walk_at "sz"); (case hx => first | assumption | exact signs_ok (by first | assumption | decide)); intro q ys H2 pm hq e h2))
def pf__law_mixed : PF := fun ds R => ∃ es, ds = [.dice, .lst es] ∧ es.length ≤ 1000 ∧ cmpOks 60 es = true ∧ ∀ fs, fs.Perm es → R true (.lst fs)
theorem pu__law_mixed {K : PySem.W.Frag} {E : XK} : PureOf (sp__law_mixed K) pf__law_mixed E := by
  rintro c L H vs ds Q R h hf ⟨es, rfl, hl, hc, hr⟩ k
  obtain ⟨v, ws, rfl, ⟨a, rfl, _, ha⟩, v2, ws2, rfl, ⟨p, xs, rfl, _, hp, hx⟩, e3⟩ := hf
  cases e3
  refine ⟨a, p, xs, rfl, ha, hp, by rw [hx.length]; exact hl, fun x hxm => ?_, fun q ys H' pm hq e h2 => ?_⟩
  · obtain ⟨i, hi⟩ := List.getElem?_of_mem hxm
    obtain ⟨d, hd, r⟩ := hx.get' hi
    have ok := cmpOks_mem hc d (List.mem_of_getElem? hd)
    exact ⟨toP d, okD_toP 60 d ok, fr_rp 60 d x ok r⟩
  · obtain ⟨fs, q1, r1⟩ := permV pm hx
    exact k _ _ _ _ (hr fs q1) ((RelL.start (subCtx c L H) (Iv.sub h)).newL (r1.mono fun b o hb ho => ⟨⟨.inl hb, by simp [owns]⟩, ho⟩) hq e h2)
abbrev N__law_signs : List Str := ["_law_d"]
theorem sc__law_signs : FnScope N__law_signs ["_law_d"] (defScope s__law_signs) := ⟨rfl, rfl, rfl, by decide +kernel, rfl, by decide +kernel, by decide +kernel⟩
def sp__law_signs (K : PySem.W.Frag) : Sp := fun vs H Q _ => ∃ a : Addr, vs = [.ref a] ∧ H a = some (DiceO a) ∧
  ∀ (ss : List Nat) H', Ex H H' → ss ≠ [] → ss.length ≤ 8 → ss.Nodup → (∀ c ∈ ss, c ∈ abcS) → Q (Tx ss) H'
theorem ok__law_signs {P : Program} {w : World} {K : PySem.W.Frag} {mg : Str → Option Value} {base : Heap} (T : Txt K mg) : Has P w K mg base CX0 3 "_law_signs" ["_law_d"] (sp__law_signs K) := by
  obtain ⟨f, fd, g, F⟩ := T.f__law_signs
  obtain ⟨f__law_mixed, fd__law_mixed, g__law_mixed, kp__law_mixed, b__law_mixed, G__law_mixed⟩ := (ok__law_mixed (P := P) (w := w) (K := K) (mg := mg) (base := base) T).ex
  obtain ⟨f__law_off, fd__law_off, g__law_off, kp__law_off, b__law_off, G__law_off⟩ := (ok__law_off (P := P) (w := w) (K := K) (mg := mg) (base := base) T).ex
  refine ⟨f, fd, g, F.kp, F.bindsN (fun _ _ _ _ _ _ us hl => match us, hl with | [_], _ => rfl), F.ok sc__law_signs (fun vs H Q E h => ?_) (fun cdv A outer s H vs Q E hr h => ?_)⟩
  · repeat (first | (obtain ⟨e, _⟩ := h; exact congrArg List.length e) | (obtain ⟨_, h⟩ := h))
  have hu64 : (A.deeper (envOfC "_law_signs" (defScope s__law_signs) s.heap.objs.size f cdv)).units + 64 < cLine := hr.units
  refine ⟨_, PSs.nox ((pss_one (ps_ret (pe_bmK (K := K) rfl PySem.F.plainAttrs_str PySem.F.slot_str_join PySem.F.type_str_join (mt_joinK (K := K) rfl) (pe_strL (l := []) (by decide +kernel)) (pa_cons (pe_slice sl_U (pe_call G__law_mixed (hr.mono (by decide)) rfl g__law_mixed kp__law_mixed b__law_mixed .nil pass0 (pa_cons (pv 0) (pa_cons (pe_callTy (call_listK (K := K) rfl rfl) (by rfl) T.z_list (by decide +kernel) (pa_cons (pe_strL (l := [97, 98, 99, 100, 101, 102, 103, 104]) (by decide +kernel)) pa_nil)) pa_nil))) po_none (po_some (pe_op op_addU pe_int (pe_call G__law_off (hr.mono (by decide)) rfl g__law_off kp__law_off b__law_off .nil pass0 (pa_cons (pv 0) (pa_cons pe_int pa_nil)))))) pa_nil))))), ?_⟩
  obtain ⟨a, rfl, ha, k⟩ := h
  (generalize hst : L2.start _ _ = st0; simp only [L2.start, N__law_signs, List.map_cons, List.map_nil, List.length_cons, List.length_nil, Nat.reduceAdd, Nat.reduceSub, List.replicate_succ, List.replicate_zero, List.cons_append, List.nil_append, List.append_nil] at hst; subst hst)
  walk_at "go"
  rename_i p H1 hp e1 h1 q ys H2 pm hq e2 h2 r hr p3 H3 hp3 e3 h3
  obtain ⟨m, hm, rfl⟩ := perm_map pm
  have hml : m.length = 8 := hm.length_eq
  have e : cutL (m.map fun c => Tx [c]) none (some (1 + (r : Int))) = (m.take (r + 1)).map fun c => Tx [c] := by
    rw [cutL_to _ (by omega), ← List.map_take]
    have : (1 + (r : Int)).toNat = r + 1 := by omega
    rw [this]
  have hlen : (m.take (r + 1)).length ≤ 8 := by simp; omega
  rw [e] at h3
  refine w_join1 h3 (by omega) ?_
  · walk_at "go"
    refine k _ _ ((e1.trans e2).trans e3) ?_ ?_ ?_ ?_
    · intro q
      have := congrArg List.length q
      rw [List.length_take, hml] at this
      simp only [List.length_nil] at this
      omega
    · simp; omega
    · exact (hm.nodup_iff.mpr (by decide)).sublist (List.take_sublist _ _)
    · intro c hc
      exact hm.mem_iff.mp (List.mem_of_mem_take hc)
theorem use__law_signs {K : PySem.W.Frag} {a : Addr} {H : Hp} {Q : VK} {E : XK} (ha : H a = some (DiceO a)) (k : ∀ (ss : List Nat) H', Ex H H' → ss ≠ [] → ss.length ≤ 8 → ss.Nodup → (∀ c ∈ ss, c ∈ abcS) → Q (Tx ss) H') : sp__law_signs K [.ref a] H Q E := ⟨a, rfl, ha, k⟩
local macro_rules | `(tactic| walk_at "st") => `(tactic| ((with_reducible refine use__law_signs ?ha ?hk); (case ha => walk_at "lift"); intro ss H2 e2 hss1 hss2 hss3 hss4))
def pf__law_signs : PF := fun ds R => ds = [.dice] ∧ ∀ ss : List Nat, ss ≠ [] → ss.length ≤ 8 → ss.Nodup → (∀ c ∈ ss, c ∈ abcS) → R false (.str ss)
theorem pu__law_signs {K : PySem.W.Frag} {E : XK} : PureOf (sp__law_signs K) pf__law_signs E := by
  rintro c L H vs ds Q R h hf ⟨rfl, hr⟩ k
  obtain ⟨v, ws, rfl, ⟨a, rfl, _, ha⟩, e3⟩ := hf
  cases e3
  exact ⟨a, rfl, ha, fun ss H' e s1 s2 s3 s4 => k _ _ _ _ (hr ss s1 s2 s3 s4) (sub_str h e _)⟩
abbrev N__law_alike : List Str := ["_law_found", "_law_due", "_law_k"]
theorem sc__law_alike : FnScope N__law_alike ["_law_found", "_law_due"] (defScope s__law_alike) := ⟨rfl, rfl, rfl, by decide +kernel, rfl, by decide +kernel, by decide +kernel⟩
def spR__law_alike (K : PySem.W.Frag) (n : Nat) : Sp := fun vs H Q _ => match n with
  | 0 => False
  | n + 1 => ∃ (x y : V) (d : PyData), vs = [x, y] ∧ alk (n + 1) d = true ∧ Rp H x d ∧ Rp H y d ∧ ∀ H', Ex H H' → Q (.bl true) H'
theorem okR__law_alike {P : Program} {w : World} {K : PySem.W.Frag} {mg : Str → Option Value} {base : Heap} (T : Txt K mg) {f__law_alike : Addr} {fd__law_alike : FuncData} (g__law_alike : mg "_law_alike" = some (.ref f__law_alike)) (F : FunD K "_law_alike" "_law_alike" (defArgs s__law_alike) (defBody s__law_alike) (defScope s__law_alike) [] [] f__law_alike fd__law_alike) : ∀ n, FnOk P w K mg base CX0 (n + 1) f__law_alike fd__law_alike ["_law_found", "_law_due"] (spR__law_alike K n) := by
  have b__law_alike := F.bindsN (ps := ["_law_found", "_law_due"]) (fun _ _ _ _ _ _ us hl => match us, hl with | [_, _], _ => rfl)
  have kp__law_alike := F.kp
  intro n
  induction n with
  | zero => exact F.ok sc__law_alike (fun vs H Q E h => h.elim) (fun cdv A outer s H vs Q E hr h => h.elim)
  | succ n IH =>
  have G__law_alike := IH
  refine F.ok sc__law_alike (fun vs H Q E h => ?_) (fun cdv A outer s H vs Q E hr h => ?_)
  · repeat (first | (obtain ⟨e, _⟩ := h; exact congrArg List.length e) | (obtain ⟨_, h⟩ := h))
  have hu64 : (A.deeper (envOfC "_law_alike" (defScope s__law_alike) s.heap.objs.size f__law_alike cdv)).units + 64 < cLine := hr.units
  refine ⟨_, PSs.nox ((pss_cons (ps_if (pt_cmpR op_isN1 (pv 1) pe_non (nomark _)) (pss_one (ps_ret (pe_cmpR op_isN1 (pv 0) pe_non (nomark _)))) pss_nil)
      (pss_cons (ps_if (pt_val (pe_callB call_isU (by rfl) T.z_isinstance (by decide +kernel) (pa_cons (pv 1) (pa_cons (pe_bltn (v := .ty "bool") rfl T.z_bool (by decide +kernel) rfl) pa_nil)))) (pss_one (ps_ret (pe_cut (pe_and (pe_callB call_isU (by rfl) T.z_isinstance (by decide +kernel) (pa_cons (pv 0) (pa_cons (pe_bltn (v := .ty "bool") rfl T.z_bool (by decide +kernel) rfl) pa_nil))) (pe_one (pe_cmpR (op_eqK (K := K) rfl hu64) (pv 0) (pv 1) (nomark _))))))) pss_nil)
      (pss_cons (ps_if (pt_val (pe_callB call_isU (by rfl) T.z_isinstance (by decide +kernel) (pa_cons (pv 1) (pa_cons (pe_bltn (v := .ty "int") rfl T.z_int (by decide +kernel) rfl) pa_nil)))) (pss_one (ps_ret (pe_cut (pe_and (pe_callB call_isU (by rfl) T.z_isinstance (by decide +kernel) (pa_cons (pv 0) (pa_cons (pe_bltn (v := .ty "int") rfl T.z_int (by decide +kernel) rfl) pa_nil))) (pe_and (pe_not (pe_callB call_isU (by rfl) T.z_isinstance (by decide +kernel) (pa_cons (pv 0) (pa_cons (pe_bltn (v := .ty "bool") rfl T.z_bool (by decide +kernel) rfl) pa_nil)))) (pe_one (pe_cmpR (op_eqK (K := K) rfl hu64) (pv 0) (pv 1) (nomark _)))))))) pss_nil)
      (pss_cons (ps_if (pt_val (pe_callB call_isU (by rfl) T.z_isinstance (by decide +kernel) (pa_cons (pv 1) (pa_cons (pe_bltn (v := .ty "str") rfl T.z_str (by decide +kernel) rfl) pa_nil)))) (pss_one (ps_ret (pe_cut (pe_and (pe_callB call_isU (by rfl) T.z_isinstance (by decide +kernel) (pa_cons (pv 0) (pa_cons (pe_bltn (v := .ty "str") rfl T.z_str (by decide +kernel) rfl) pa_nil))) (pe_one (pe_cmpR (op_eqK (K := K) rfl hu64) (pv 0) (pv 1) (nomark _))))))) pss_nil)
      (pss_cons (ps_if (pt_cut (PW.pt (pw_or (pt_cmpR (op_neK (K := K) rfl hu64) (pe_callB call_isU (by rfl) T.z_isinstance (by decide +kernel) (pa_cons (pv 1) (pa_cons (pe_bltn (v := .ty "tuple") rfl T.z_tuple (by decide +kernel) rfl) pa_nil))) (pe_callB call_isU (by rfl) T.z_isinstance (by decide +kernel) (pa_cons (pv 0) (pa_cons (pe_bltn (v := .ty "tuple") rfl T.z_tuple (by decide +kernel) rfl) pa_nil))) (nomark _)) (pw_or1 (pt_cmpR (op_neK (K := K) rfl hu64) (pe_callB call_isU (by rfl) T.z_isinstance (by decide +kernel) (pa_cons (pv 1) (pa_cons (pe_bltn (v := .ty "list") rfl T.z_list (by decide +kernel) rfl) pa_nil))) (pe_callB call_isU (by rfl) T.z_isinstance (by decide +kernel) (pa_cons (pv 0) (pa_cons (pe_bltn (v := .ty "list") rfl T.z_list (by decide +kernel) rfl) pa_nil))) (nomark _)))))) (pss_one (ps_ret pe_bl)) pss_nil)
      (pss_cons (ps_if (pt_cmpR (op_neK (K := K) rfl hu64) (pe_callB (call_lenK (K := K) rfl) (by rfl) T.z_len PySem.boot_len (pa_cons (pv 0) pa_nil)) (pe_callB (call_lenK (K := K) rfl) (by rfl) T.z_len PySem.boot_len (pa_cons (pv 1) pa_nil)) (nomark _)) (pss_one (ps_ret pe_bl)) pss_nil)
      (pss_one (ps_ret (pe_callB (call_allK (K := K) rfl rfl) (by rfl) T.z_all (by decide +kernel) (pa_cons (pe_lc (own := [("_law_k", 2)]) rfl sc__law_alike.nd (pi_range1 (by rfl) T.z_range (pa_cons (pe_callB (call_lenK (K := K) rfl) (by rfl) T.z_len PySem.boot_len (pa_cons (pv 1) pa_nil)) pa_nil)) (blkOk_by (own := [("_law_k", 2)]) (N := N__law_alike) (sc := defScope s__law_alike) (by decide +kernel)) (fun _ _ _ _ _ => (pg_name (i := 2) sc__law_alike.nd rfl (Or.inl rfl))) (fun _ _ _ _ _ => (pts_cut pts_nil)) (fun _ _ _ _ _ => (pe_cut (pe_call G__law_alike (hr.mono (Nat.le_refl _)) rfl g__law_alike kp__law_alike b__law_alike .nil pass0 (pa_cons (pe_ix (ix_K (K := K) rfl) (pv 0) (pv 2) (fun _ _ => rfl)) (pa_cons (pe_ix (ix_K (K := K) rfl) (pv 1) (pv 2) (fun _ _ => rfl)) pa_nil)))))) pa_nil))))))))))), ?_⟩
  obtain ⟨x, y, d, rfl, hd, hx, hy, k⟩ := h
  (generalize hst : L2.start _ _ = st0; simp only [L2.start, N__law_alike, List.map_cons, List.map_nil, List.length_cons, List.length_nil, Nat.reduceAdd, Nat.reduceSub, List.replicate_succ, List.replicate_zero, List.cons_append, List.nil_append, List.append_nil] at hst; subst hst)
  cases hx with
  | non =>
    cases hy
    walk_at "go"
    exact k _ (Ex.refl _)
  | bl b =>
    cases hy
    walk_at "go"
    refine w_cutE0 ?_
    walk_at "go"
    exact k _ (Ex.refl _)
  | int i =>
    cases hy
    walk_at "go"
    refine w_cutE0 ?_
    walk_at "go"
    rw [decide_eq_true rfl]
    exact k _ (Ex.refl _)
  | str x =>
    cases hy
    walk_at "go"
    refine w_cutE0 ?_
    walk_at "go"
    rw [decide_eq_true rfl]
    exact k _ (Ex.refl _)
  | lst hx rx =>
    rename_i a xs ds
    cases hy with
    | lst hy ry =>
    rename_i b ys
    obtain ⟨hl, hd⟩ := alk_get hd
    have lx := rx.length
    have ly := ry.length
    walk_at "go"
    refine w_cutB false ?_ ?_
    · walk_at "go"
      exact ⟨rfl, rfl⟩
    walk_at "go"
    rw [decide_eq_true (show ((xs.length : Int) = ys.length) by omega)]
    walk_at "go"
    refine lcX_bl walk_range (by omega) (fun _ => true) (fun _ _ => trivial) (fun v => rfl) ?_ ?_
    · rintro i x H1 H2 Q' hi e ⟨e2, e3⟩ kk
      subst e2 e3
      walk_at "go"
      rename_i v1 h1 v2 h2
      have e0 : ((0 : Int) + (i : Int)).toNat = i := by omega
      rw [e0] at h1 h2
      obtain ⟨d, d1, d2⟩ := rx.get' h1
      obtain ⟨d', d1', d2'⟩ := ry.get' h2
      rw [d1] at d1'
      cases d1'
      have := hd d (List.mem_of_getElem? d1)
      cases n with
      | zero => cases this
      | succ n => exact ⟨_, _, d, rfl, this, d2.ex e, d2'.ex e, fun H' e' => kk _ e'⟩
    · intro p H2 hp e h2
      walk_at "go"
      refine w_all h2 ?_
      rw [all_range fun _ _ => rfl]
      exact k _ e
  | tup hx rx =>
    rename_i a xs ds
    cases hy with
    | tup hy ry =>
    rename_i b ys
    obtain ⟨hl, hd⟩ := alk_get hd
    have lx := rx.length
    have ly := ry.length
    walk_at "go"
    refine w_cutB false ?_ ?_
    · walk_at "go"
      exact ⟨rfl, rfl⟩
    walk_at "go"
    rw [decide_eq_true (show ((xs.length : Int) = ys.length) by omega)]
    walk_at "go"
    refine lcX_bl walk_range (by omega) (fun _ => true) (fun _ _ => trivial) (fun v => rfl) ?_ ?_
    · rintro i x H1 H2 Q' hi e ⟨e2, e3⟩ kk
      subst e2 e3
      walk_at "go"
      rename_i v1 h1 v2 h2
      have e0 : ((0 : Int) + (i : Int)).toNat = i := by omega
      rw [e0] at h1 h2
      obtain ⟨d, d1, d2⟩ := rx.get' h1
      obtain ⟨d', d1', d2'⟩ := ry.get' h2
      rw [d1] at d1'
      cases d1'
      have := hd d (List.mem_of_getElem? d1)
      cases n with
      | zero => cases this
      | succ n => exact ⟨_, _, d, rfl, this, d2.ex e, d2'.ex e, fun H' e' => kk _ e'⟩
    · intro p H2 hp e h2
      walk_at "go"
      refine w_all h2 ?_
      rw [all_range fun _ _ => rfl]
      exact k _ e
theorem ok__law_alike {P : Program} {w : World} {K : PySem.W.Frag} {mg : Str → Option Value} {base : Heap} (T : Txt K mg) : Has P w K mg base CX0 13 "_law_alike" ["_law_found", "_law_due"] (spR__law_alike K 12) := by
  obtain ⟨f, fd, g, F⟩ := T.f__law_alike
  exact ⟨f, fd, g, F.kp, F.bindsN (fun _ _ _ _ _ _ us hl => match us, hl with | [_, _], _ => rfl), okR__law_alike T g F 12⟩
def pf__law_alike : PF := fun ds R => ∃ d, ds = [d, d] ∧ alk 12 (toP d) = true ∧ cmpOk 60 d = true ∧ R false (.bl true)
theorem pu__law_alike {K : PySem.W.Frag} {E : XK} : PureOf (spR__law_alike K 12) pf__law_alike E := by
  rintro c L H vs ds Q R h hf ⟨d, rfl, h1, h2, hr⟩ k
  obtain ⟨v, ws, rfl, e1, v2, ws2, rfl, e2, e3⟩ := hf
  cases e3
  exact ⟨v, v2, toP d, rfl, h1, fr_rp 60 d v h2 e1, fr_rp 60 d v2 h2 e2, fun H' e => k _ _ _ _ hr (sub_bl h e _)⟩
abbrev N__law_lot_name : List Str := ["_law_lot_here", "_law_row_here"]
theorem sc__law_lot_name : FnScope N__law_lot_name ["_law_lot_here"] (defScope s__law_lot_name) := ⟨rfl, rfl, rfl, by decide +kernel, rfl, by decide +kernel, by decide +kernel⟩
def pf__law_lot_name : PF := fun ds R => ∃ rs : List (List Nat), ds = [.str (lotT rs)] ∧ RsOk rs ∧ rs ≠ [] ∧ (lotT rs).length ≤ 1000 ∧ R false (.tpk ((nameLot rs).map .str))
theorem len__law_lot_name : ∀ ds R, pf__law_lot_name ds R → ds.length = 1 := by
  intro ds R h
  (repeat (first | (obtain ⟨e, _⟩ := h; exact congrArg List.length e) | (obtain ⟨_, h⟩ := h)))
theorem ok__law_lot_name {P : Program} {w : World} {K : PySem.W.Frag} {mg : Str → Option Value} {base : Heap} (T : Txt K mg) : Has P w K mg base CX0 1 "_law_lot_name" ["_law_lot_here"] (spZ pf__law_lot_name) := by
  obtain ⟨f, fd, g, F⟩ := T.f__law_lot_name
  refine ⟨f, fd, g, F.kp, F.bindsN (fun _ _ _ _ _ _ us hl => match us, hl with | [_], _ => rfl), F.ok sc__law_lot_name (fun vs H Q E h => spZ_len (len__law_lot_name) (K := K) vs H Q E h) (fun cdv A outer s H vs Q E hr h => ?_)⟩
  have hu64 : (A.deeper (envOfC "_law_lot_name" (defScope s__law_lot_name) s.heap.objs.size f cdv)).units + 64 < cLine := hr.units
  have hu : (A.deeper (envOfC "_law_lot_name" (defScope s__law_lot_name) s.heap.objs.size f cdv)).units + 1 < cLine := by omega
  obtain ⟨A0, Zd0, ds, R, hf, hi, hp0, k⟩ := h
  refine ⟨_, PSs.nox ((pss_one (ps_ret (pe_callTy (call_tupZ (K := K) rfl rfl) (by rfl) T.z_tuple (by decide +kernel) (pa_cons (pe_callB (cr_sortA (K := K) rfl rfl hu64) (by rfl) T.z_sorted (by decide +kernel) (pa_cons (pe_lc (own := [("_law_row_here", 1)]) rfl sc__law_lot_name.nd (pi_anyK (K := K) rfl (pe_bmK (K := K) rfl PySem.F.plainAttrs_str PySem.F.slot_str_split PySem.F.type_str_split mt_splitS (pv 0) (pa_cons (pe_strL (l := [124]) (by decide +kernel)) pa_nil))) (blkOk_by (own := [("_law_row_here", 1)]) (N := N__law_lot_name) (sc := defScope s__law_lot_name) (by decide +kernel)) (fun _ _ _ _ _ => (pg_name (i := 1) sc__law_lot_name.nd rfl (Or.inl rfl))) (fun _ _ _ _ _ => (pts_cut (pts_one (pt_cmpR (op_neK (K := K) rfl hu64) (pv 1) (pe_strL (l := []) (by decide +kernel)) (nomark _))))) (fun _ _ _ _ _ => (pe_cut (pe_callB (call_minZ rfl) (by rfl) T.z_min (by decide +kernel) (pa_cons (pv 1) (pa_cons (pe_revX (pv 1)) pa_nil)))))) pa_nil)) pa_nil))))), ?_⟩
  refine z_run (n := 1) hf hi ?_ k (cs_ret (ce_cb1 (co_e (ce_cb1 (co_e (ce_lc (vs := [1]) (ks := []) (ci_any (ce_str1 z_splitS (ce_var 0) (co_e ce_str))) (cg_name (by decide)) (ct_cut0 (ct_test (ce_op (co_s 1) (co_e ce_str) z_ne))) (ce_cut0 (ce_cb2 (co_s 1) (co_e (ce_rev (co_s 1))) z_min)))) z_sortA)) z_tup)) ?_
  · rw [len__law_lot_name ds R hp0]; rfl
  clear hf hi k
  clear hr hu64 hu
  obtain ⟨rs, rfl, h1, h2, hl, k⟩ := hp0
  have hrl := rows_few h1 hl
  walk_at "z"
  walk_at "lc"
  rw [split_lot h1]
  refine lc_fm ([] :: (rs ++ [[]])) .str (fun r => !decide (r = [])) (fun r => .str (nameM r)) rfl (by simp; omega) ?_ ?_
  · intro j r acc G hj hG
    have hr : r.length ≤ 1000 := by
      have := List.mem_of_getElem? hj
      rcases List.mem_cons.mp this with rfl | hm
      · simp
      · rcases List.mem_append.mp hm with hm | hm
        · exact hrl.2.1 r hm
        · rw [List.mem_singleton.mp hm]; simp
    walk_at "z"
    walk_at "nes"
    by_cases q : r = []
    · rw [if_neg (by simp [q])]
      rw [if_neg (by simp [q]), List.append_nil] at hG
      walk_at "z"
      exact hG
    · rw [if_pos (by simpa using q)]
      rw [if_pos (by simpa using q)] at hG
      walk_at "zz"
      exact hG
  · walk_at "z"
    rw [lot_flt h1, show rs.map (fun r => Dt.str (nameM r)) = (rs.map nameM).map .str by rw [List.map_map]; rfl]
    refine zs_strs (fun x hx c hc => ?_) ?_
    · obtain ⟨r, hr, rfl⟩ := List.mem_map.mp hx
      exact abc_lt ((h1 r hr).2 c (nameM_mem hc))
    · walk_at "z"
      exact k
theorem pu__law_lot_name {E : XK} : PureOf (spZ pf__law_lot_name) pf__law_lot_name E := pure_spZ
abbrev N_rows_in : List Str := ["lot"]
theorem sc_rows_in : FnScope N_rows_in ["lot"] (defScope s_rows_in) := ⟨rfl, rfl, rfl, by decide +kernel, rfl, by decide +kernel, by decide +kernel⟩
def pf_rows_in : PF := fun ds R => ∃ rs : List (List Nat), ds = [.str (lotT rs)] ∧ RsOk rs ∧ rs ≠ [] ∧ (lotT rs).length ≤ 1000 ∧ R true (.lst (rs.map .str))
theorem len_rows_in : ∀ ds R, pf_rows_in ds R → ds.length = 1 := by
  intro ds R h
  (repeat (first | (obtain ⟨e, _⟩ := h; exact congrArg List.length e) | (obtain ⟨_, h⟩ := h)))
theorem ok_rows_in {P : Program} {w : World} {K : PySem.W.Frag} {mg : Str → Option Value} {base : Heap} (T : Txt K mg) : Has P w K mg base CX0 1 "rows_in" ["lot"] (spZ pf_rows_in) := by
  obtain ⟨f, fd, g, F⟩ := T.f_rows_in
  refine ⟨f, fd, g, F.kp, F.bindsN (fun _ _ _ _ _ _ us hl => match us, hl with | [_], _ => rfl), F.ok sc_rows_in (fun vs H Q E h => spZ_len (len_rows_in) (K := K) vs H Q E h) (fun cdv A outer s H vs Q E hr h => ?_)⟩
  have hu64 : (A.deeper (envOfC "rows_in" (defScope s_rows_in) s.heap.objs.size f cdv)).units + 64 < cLine := hr.units
  have hu : (A.deeper (envOfC "rows_in" (defScope s_rows_in) s.heap.objs.size f cdv)).units + 1 < cLine := by omega
  obtain ⟨A0, Zd0, ds, R, hf, hi, hp0, k⟩ := h
  refine ⟨_, PSs.nox ((pss_one (ps_ret (pe_bmK (K := K) rfl PySem.F.plainAttrs_str PySem.F.slot_str_split PySem.F.type_str_split mt_splitS (pe_slice sl_Z (pv 0) (po_some pe_int) (po_some (pe_un un_neg pe_int))) (pa_cons (pe_gc rfl T.c_BAR) pa_nil))))), ?_⟩
  refine z_run (n := 0) hf hi ?_ k (cs_ret (ce_str1 z_splitS (ce_sl (co_s 0) (cp_part ce_int) (cp_part (ce_un (co_e ce_int) z_neg))) (co_e ce_str))) ?_
  · rw [len_rows_in ds R hp0]; rfl
  clear hf hi k
  clear hr hu64 hu
  obtain ⟨rs, rfl, h1, h2, hl, k⟩ := hp0
  walk_at "zz"
  have e : cutL (lotT rs) (some 1) (some (-1)) = TL.joinL [124] rs := by
    rw [lot_in h2]
    exact cutL_in 124 124 _
  rw [e]
  have hl2 : (TL.joinL [124] rs).length ≤ 1000 := by
    rw [lot_in h2, List.length_cons, List.length_append] at hl
    omega
  refine ⟨by omega, ?_⟩
  rw [split_joinL 124 rs h2 fun p hp z => bar_abc ((h1 p hp).2 _ z)]
  exact k
theorem pu_rows_in {E : XK} : PureOf (spZ pf_rows_in) pf_rows_in E := pure_spZ
abbrev N_name_of_lot : List Str := ["lot", "row"]
theorem sc_name_of_lot : FnScope N_name_of_lot ["lot"] (defScope s_name_of_lot) := ⟨rfl, rfl, rfl, by decide +kernel, rfl, by decide +kernel, by decide +kernel⟩
def pf_name_of_lot : PF := fun ds R => ∃ rs : List (List Nat), ds = [.str (lotT rs)] ∧ RsOk rs ∧ rs ≠ [] ∧ (lotT rs).length ≤ 1000 ∧ R false (.tpk ((nameLot rs).map .str))
theorem len_name_of_lot : ∀ ds R, pf_name_of_lot ds R → ds.length = 1 := by
  intro ds R h
  (repeat (first | (obtain ⟨e, _⟩ := h; exact congrArg List.length e) | (obtain ⟨_, h⟩ := h)))
theorem ok_name_of_lot {P : Program} {w : World} {K : PySem.W.Frag} {mg : Str → Option Value} {base : Heap} (T : Txt K mg) : Has P w K mg base CX0 2 "name_of_lot" ["lot"] (spZ pf_name_of_lot) := by
  obtain ⟨f, fd, g, F⟩ := T.f_name_of_lot
  obtain ⟨f_rows_in, fd_rows_in, g_rows_in, kp_rows_in, b_rows_in, G_rows_in⟩ := (ok_rows_in (P := P) (w := w) (K := K) (mg := mg) (base := base) T).ex
  refine ⟨f, fd, g, F.kp, F.bindsN (fun _ _ _ _ _ _ us hl => match us, hl with | [_], _ => rfl), F.ok sc_name_of_lot (fun vs H Q E h => spZ_len (len_name_of_lot) (K := K) vs H Q E h) (fun cdv A outer s H vs Q E hr h => ?_)⟩
  have hu64 : (A.deeper (envOfC "name_of_lot" (defScope s_name_of_lot) s.heap.objs.size f cdv)).units + 64 < cLine := hr.units
  have hu : (A.deeper (envOfC "name_of_lot" (defScope s_name_of_lot) s.heap.objs.size f cdv)).units + 1 < cLine := by omega
  obtain ⟨A0, Zd0, ds, R, hf, hi, hp0, k⟩ := h
  refine ⟨_, PSs.nox ((pss_one (ps_ret (pe_callTy (call_tupZ (K := K) rfl rfl) (by rfl) T.z_tuple (by decide +kernel) (pa_cons (pe_callB (cr_sortA (K := K) rfl rfl hu64) (by rfl) T.z_sorted (by decide +kernel) (pa_cons (pe_lc (own := [("row", 1)]) rfl sc_name_of_lot.nd (pi_anyK (K := K) rfl (pe_call G_rows_in (hr.mono (by decide)) rfl g_rows_in kp_rows_in b_rows_in .nil pass0 (pa_cons (pv 0) pa_nil))) (blkOk_by (own := [("row", 1)]) (N := N_name_of_lot) (sc := defScope s_name_of_lot) (by decide +kernel)) (fun _ _ _ _ _ => (pg_name (i := 1) sc_name_of_lot.nd rfl (Or.inl rfl))) (fun _ _ _ _ _ => (pts_cut pts_nil)) (fun _ _ _ _ _ => (pe_cut (pe_callB (call_minZ rfl) (by rfl) T.z_min (by decide +kernel) (pa_cons (pv 1) (pa_cons (pe_revX (pv 1)) pa_nil)))))) pa_nil)) pa_nil))))), ?_⟩
  refine z_run (n := 1) hf hi ?_ k (cs_ret (ce_cb1 (co_e (ce_cb1 (co_e (ce_lc (vs := [1]) (ks := []) (ci_any (ce_call (ca_cons (ce_var 0) ca_nil) pu_rows_in)) (cg_name (by decide)) (ct_cut0 ct_yes) (ce_cut0 (ce_cb2 (co_s 1) (co_e (ce_rev (co_s 1))) z_min)))) z_sortA)) z_tup)) ?_
  · rw [len_name_of_lot ds R hp0]; rfl
  clear hf hi k
  clear hr hu64 hu G_rows_in b_rows_in kp_rows_in g_rows_in
  obtain ⟨rs, rfl, h1, h2, hl, k⟩ := hp0
  have hrl := rows_few h1 hl
  walk_at "z"
  walk_at "lc"
  refine ⟨rs, rfl, h1, h2, hl, ?_⟩
  walk_at "z"
  refine lc_map rs .str (fun r => .str (nameM r)) rfl (by omega) ?_ ?_
  · intro j r acc G hj hG
    have hr := (hrl.2.1 r (List.mem_of_getElem? hj))
    walk_at "zz"
    exact hG
  · walk_at "z"
    rw [show rs.map (fun r => Dt.str (nameM r)) = (rs.map nameM).map .str by rw [List.map_map]; rfl]
    refine zs_strs (fun x hx c hc => ?_) ?_
    · obtain ⟨r, hr, rfl⟩ := List.mem_map.mp hx
      exact abc_lt ((h1 r hr).2 c (nameM_mem hc))
    · walk_at "z"
      exact k
theorem pu_name_of_lot {E : XK} : PureOf (spZ pf_name_of_lot) pf_name_of_lot E := pure_spZ
abbrev N_lot_name : List Str := ["lot"]
theorem sc_lot_name : FnScope N_lot_name ["lot"] (defScope s_lot_name) := ⟨rfl, rfl, rfl, by decide +kernel, rfl, by decide +kernel, by decide +kernel⟩
def pfx_lot_name : PFX := fun ds R X => ∃ d : Dt, ds = [d] ∧ LotX d X fun l => ∃ rs, l = lotT rs ∧ RsOk rs ∧ rs ≠ [] ∧ R false (.tpk ((nameLot rs).map .str))
theorem len_lot_name : ∀ ds R X, pfx_lot_name ds R X → ds.length = 1 := by
  intro ds R X h
  (repeat (first | (obtain ⟨e, _⟩ := h; exact congrArg List.length e) | (obtain ⟨_, h⟩ := h)))
theorem ok_lot_name {P : Program} {w : World} {K : PySem.W.Frag} {mg : Str → Option Value} {base : Heap} (T : Txt K mg) : Has P w K mg base (L2.CX P w) 4 "lot_name" ["lot"] (spX mg pfx_lot_name) := by
  obtain ⟨f, fd, g, F⟩ := T.f_lot_name
  obtain ⟨f_name_of_lot, fd_name_of_lot, g_name_of_lot, kp_name_of_lot, b_name_of_lot, G_name_of_lot⟩ := (ok_name_of_lot (P := P) (w := w) (K := K) (mg := mg) (base := base) T).ex
  obtain ⟨f_need_lot, fd_need_lot, g_need_lot, kp_need_lot, b_need_lot, G_need_lot⟩ := (ok_need_lot (P := P) (w := w) (K := K) (mg := mg) (base := base) T).ex
  refine ⟨f, fd, g, F.kp, F.bindsN (fun _ _ _ _ _ _ us hl => match us, hl with | [_], _ => rfl), F.ok sc_lot_name (spX_len len_lot_name) (fun cdv A outer s H vs Q E hr h => ?_)⟩
  have hu64 : (A.deeper (envOfC "lot_name" (defScope s_lot_name) s.heap.objs.size f cdv)).units + 64 < cLine := hr.units
  have hu : (A.deeper (envOfC "lot_name" (defScope s_lot_name) s.heap.objs.size f cdv)).units + 1 < cLine := by omega
  have tk : Takes (cxOf (L2.CX P w) P w K mg base N_lot_name "lot_name" (defScope s_lot_name) f cdv A outer s H E) (fun cls d _ H => E cls d H) := takes_of rfl rfl rfl rfl
  have px : Passes (L2.CX P w) (cxOf (L2.CX P w) P w K mg base N_lot_name "lot_name" (defScope s_lot_name) f cdv A outer s H E) E := passes_call tk (fun _ _ _ _ h => h)
  obtain ⟨A0, Zd0, ds, R, X, hf, hi, hp0, k, lx⟩ := h
  refine ⟨_, (pss_cons (ps_expr (pe_call G_need_lot (hr.mono (by decide)) rfl g_need_lot kp_need_lot b_need_lot .nil px (pa_cons (pv 0) pa_nil)))
      (pss_one (ps_ret (pe_call G_name_of_lot (hr.mono (by decide)) rfl g_name_of_lot kp_name_of_lot b_name_of_lot .nil pass0 (pa_cons (pv 0) pa_nil))))), ?_⟩
  refine z_run (n := 0) hf hi ?_ k (cs_seq (cs_drop (ce_callX lx (ca_cons (ce_var 0) ca_nil) pq_need_lot))
      (cs_ret (ce_call (ca_cons (ce_var 0) ca_nil) pu_name_of_lot))) ?_
  · rw [len_lot_name ds R X hp0]; rfl
  clear hf hi k lx px tk
  clear hr hu64 hu G_name_of_lot b_name_of_lot kp_name_of_lot g_name_of_lot G_need_lot b_need_lot kp_need_lot g_need_lot
  obtain ⟨d, rfl, ha, hx, k⟩ := hp0
  walk_at "z"
  refine ⟨d, rfl, ha, hx, fun l el h => ?_⟩
  subst el
  obtain ⟨rs, rfl, h1, h2, k⟩ := k _ rfl h
  have hl := h.len
  walk_at "z"
  refine ⟨rs, rfl, h1, h2, by omega, ?_⟩
  walk_at "z"
  exact k
theorem pq_lot_name {mg : Str → Option Value} : PureOfX mg (spX mg pfx_lot_name) pfx_lot_name := pure_spX
abbrev N__law_turns : List Str := ["_law_row_here", "_law_held", "_law_found", "_law_here", "_law_there"]
theorem sc__law_turns : FnScope N__law_turns ["_law_row_here", "_law_held"] (defScope s__law_turns) := ⟨rfl, rfl, rfl, by decide +kernel, rfl, by decide +kernel, by decide +kernel⟩
def pf__law_turns : PF := fun ds R => ∃ (row held : List Nat), ds = [.str row, .str held] ∧ row.length ≤ 200 ∧ R false (.lst ((turnsM row held).map dPr))
theorem len__law_turns : ∀ ds R, pf__law_turns ds R → ds.length = 2 := by
  intro ds R h
  (repeat (first | (obtain ⟨e, _⟩ := h; exact congrArg List.length e) | (obtain ⟨_, h⟩ := h)))
theorem ok__law_turns {P : Program} {w : World} {K : PySem.W.Frag} {mg : Str → Option Value} {base : Heap} (T : Txt K mg) : Has P w K mg base CX0 1 "_law_turns" ["_law_row_here", "_law_held"] (spZ pf__law_turns) := by
  obtain ⟨f, fd, g, F⟩ := T.f__law_turns
  refine ⟨f, fd, g, F.kp, F.bindsN (fun _ _ _ _ _ _ us hl => match us, hl with | [_, _], _ => rfl), F.ok sc__law_turns (fun vs H Q E h => spZ_len (len__law_turns) (K := K) vs H Q E h) (fun cdv A outer s H vs Q E hr h => ?_)⟩
  have hu64 : (A.deeper (envOfC "_law_turns" (defScope s__law_turns) s.heap.objs.size f cdv)).units + 64 < cLine := hr.units
  have hu : (A.deeper (envOfC "_law_turns" (defScope s__law_turns) s.heap.objs.size f cdv)).units + 1 < cLine := by omega
  obtain ⟨A0, Zd0, ds, R, hf, hi, hp0, k⟩ := h
  refine ⟨_, PSs.nox ((pss_cons (ps_set (i := 2) sc__law_turns.nd rfl (Or.inl rfl) (pe_lstX pa_nil))
      (pss_cons (ps_for PassesOwn.never rfl (pi_range1 (by rfl) T.z_range (pa_cons (pe_callB (call_lenK (K := K) rfl) (by rfl) T.z_len PySem.boot_len (pa_cons (pv 0) pa_nil)) pa_nil)) (pg_name (i := 3) sc__law_turns.nd rfl (Or.inl rfl)) (pss_one (ps_for PassesOwn.never rfl (pi_range2 (by rfl) T.z_range (pa_cons (pe_op op_addZ (pv 3) pe_int) (pa_cons (pe_callB (call_lenK (K := K) rfl) (by rfl) T.z_len PySem.boot_len (pa_cons (pv 0) pa_nil)) pa_nil))) (pg_name (i := 4) sc__law_turns.nd rfl (Or.inl rfl)) (pss_one (ps_cut (ps_if (pt_cut (PW.pt (pw_and (pt_cmpR (op_eqK (K := K) rfl hu64) (pe_ix (ix_K (K := K) rfl) (pv 0) (pv 3) (fun _ _ => rfl)) (pe_ix (ix_K (K := K) rfl) (pv 0) (pv 4) (fun _ _ => rfl)) (nomark _)) (pw_and1 (pt_cmpR (op_notInK (K := K) rfl) (pe_ix (ix_K (K := K) rfl) (pv 0) (pv 3) (fun _ _ => rfl)) (pv 1) (by rfl)))))) (pss_one (ps_expr (pe_bmK (K := K) rfl PySem.F.plainAttrs_list PySem.F.slot_list_append PySem.F.type_list_append mt_append (pv 2) (pa_cons (pe_tupX (pa_cons (pv 3) (pa_cons (pv 4) pa_nil))) pa_nil)))) pss_nil))))))
      (pss_one (ps_ret (pv 2)))))), ?_⟩
  refine z_run (n := 3) hf hi ?_ k (cs_seq (cs_set (i := 2) (ce_lst ca_nil))
      (cs_seq (cs_for (vs := [3]) (ci_rng1 (ce_cb1 (co_s 0) z_len)) (cg_name (by decide)) (cs_for (vs := [4]) (ci_rng2 (ce_op (co_s 3) (co_e ce_int) z_add) (ce_cb1 (co_s 0) z_len)) (cg_name (by decide)) (cs_cut0 (cs_if (ct_cut0 (ct_and (ct_test (ce_op (co_e (ce_op (co_s 0) (co_s 3) z_ix)) (co_e (ce_op (co_s 0) (co_s 4) z_ix)) z_eq)) (ct_test (ce_op (co_e (ce_op (co_s 0) (co_s 3) z_ix)) (co_s 1) z_notIn)))) (cs_drop (ce_app (k := 2) (ce_tup (ca_cons (ce_var 3) (ca_cons (ce_var 4) ca_nil))))) cs_next))))
      (cs_ret (ce_var 2)))) ?_
  · rw [len__law_turns ds R hp0]; rfl
  clear hf hi k
  clear hr hu64 hu
  obtain ⟨row, held, rfl, hl, k⟩ := hp0
  walk_at "z"
  walk_at "for"
  refine for_r row.length (fun i s => ∃ x y, s = [.fz (.str row), .fz (.str held), .ow (.lst (((List.range i).flatMap (turnsAt row held)).map dPr)), x, y] ∧ ((List.range i).flatMap (turnsAt row held)).length ≤ i * 200) rfl ⟨_, _, rfl, Nat.le_refl _⟩ ?_ ?_
  · rintro i s hi ⟨x, y, rfl, hz⟩
    walk_at "z"
    walk_at "for"
    refine for_l (List.range (row.length - (i + 1))) (fun j : Nat => .int ((i : Int) + 1 + (j : Int))) (fun j s => ∃ y, s = [.fz (.str row), .fz (.str held), .ow (.lst (((List.range i).flatMap (turnsAt row held) ++ turnsIn row held i j).map dPr)), .fz (.int (i : Int)), y] ∧ ((List.range i).flatMap (turnsAt row held) ++ turnsIn row held i j).length ≤ i * 200 + j) ?_ ?_ ?_ ?_
    · congr 2
      omega
    · have e0 : turnsIn row held i 0 = [] := by unfold turnsIn; simp
      rw [e0, List.append_nil]
      exact ⟨_, rfl, hz⟩
    · rintro j j' s hj ⟨y, rfl, hz⟩
      have hj2 : j < row.length - (i + 1) := by simpa using (List.getElem?_eq_some_iff.mp hj).1
      rw [List.getElem?_range hj2] at hj
      cases hj
      have hj' : i + 1 + j < row.length := by omega
      rw [turnsIn_more]
      walk_at "z"
      refine zIx_s (k := i) (by omega) (by omega) (.inl rfl) fun a ha => ?_
      walk_at "z"
      refine zIx_s (k := i + 1 + j) (by omega) (by omega) (.inl (by omega)) fun b hb => ?_
      have ea : row.getD i 0 = a := by rw [List.getD_eq_getElem?_getD, ha]; rfl
      have eb : row.getD (i + 1 + j) 0 = b := by rw [List.getD_eq_getElem?_getD, hb]; rfl
      rw [ea, eb]
      walk_at "z"
      walk_at "br"
      · rename_i hab
        subst hab
        refine zIx_s (k := i) (by omega) (by omega) (.inl rfl) fun a2 ha2 => ?_
        rw [ha] at ha2
        cases ha2
        walk_at "z"
        walk_at "br"
        · rename_i hh
          rw [if_pos ⟨hh, trivial⟩, ← List.append_assoc]
          have hz2 : (((List.range i).flatMap (turnsAt row held) ++ turnsIn row held i j).map dPr).length < 16777216 := by rw [List.length_map]; omega
          walk_at "zz"
          refine ⟨.fz (.int ((i : Int) + 1 + (j : Int))), ?_, ?_⟩
          · rw [List.map_append (l₁ := (List.range i).flatMap (turnsAt row held) ++ turnsIn row held i j)]
            rfl
          · rw [List.length_append (as := (List.range i).flatMap (turnsAt row held) ++ turnsIn row held i j), List.length_singleton]
            omega
        · rename_i hh
          walk_at "z"
          rw [if_neg fun q => q.1 hh, List.append_nil]
          exact ⟨_, rfl, by omega⟩
      · rename_i hab
        walk_at "z"
        rw [if_neg fun q => hab q.2.symm, List.append_nil]
        exact ⟨_, rfl, by omega⟩
    · rintro s ⟨y, rfl, hz⟩
      walk_at "z"
      rw [turns_more]
      rw [List.length_range] at hz ⊢
      refine ⟨_, _, rfl, ?_⟩
      show ((List.range i).flatMap (turnsAt row held) ++ turnsIn row held i (row.length - (i + 1))).length ≤ _
      omega
  · rintro s ⟨x, y, rfl, hz⟩
    walk_at "z"
    exact k
theorem pu__law_turns {E : XK} : PureOf (spZ pf__law_turns) pf__law_turns E := pure_spZ
theorem rev_range {row : List Nat} {h t : Nat} (hh : h ≤ t) (ht : t < row.length) : (List.range (t + 1 - h)).map (fun k => row.getD (t - k) 0) = ((row.drop h).take (t + 1 - h)).reverse := by
  refine List.ext_getElem (by simp; omega) fun i h1 h2 => ?_
  simp at h1
  simp only [List.getElem_map, List.getElem_range, List.getElem_reverse, List.getElem_take, List.getElem_drop, List.length_take, List.length_drop]
  rw [List.getD_eq_getElem?_getD, List.getElem?_eq_getElem (by omega)]
  simp only [Option.getD_some]
  congr 1
  omega
abbrev N__law_turned : List Str := ["_law_row_here", "_law_here", "_law_there", "_law_k"]
theorem sc__law_turned : FnScope N__law_turned ["_law_row_here", "_law_here", "_law_there"] (defScope s__law_turned) := ⟨rfl, rfl, rfl, by decide +kernel, rfl, by decide +kernel, by decide +kernel⟩
def sp__law_turned (K : PySem.W.Frag) : Sp := fun vs H Q _ => ∃ (row : List Nat) (h t : Nat), vs = [Tx row, .int h, .int t] ∧ h ≤ t ∧ t < row.length ∧ row.length ≤ 1000 ∧
  ∀ H', Ex H H' → Q (Tx (turnM row h t)) H'
theorem ok__law_turned {P : Program} {w : World} {K : PySem.W.Frag} {mg : Str → Option Value} {base : Heap} (T : Txt K mg) : Has P w K mg base CX0 1 "_law_turned" ["_law_row_here", "_law_here", "_law_there"] (sp__law_turned K) := by
  obtain ⟨f, fd, g, F⟩ := T.f__law_turned
  refine ⟨f, fd, g, F.kp, F.bindsN (fun _ _ _ _ _ _ us hl => match us, hl with | [_, _, _], _ => rfl), F.ok sc__law_turned (fun vs H Q E h => ?_) (fun cdv A outer s H vs Q E hr h => ?_)⟩
  · repeat (first | (obtain ⟨e, _⟩ := h; exact congrArg List.length e) | (obtain ⟨_, h⟩ := h))
  have hu64 : (A.deeper (envOfC "_law_turned" (defScope s__law_turned) s.heap.objs.size f cdv)).units + 64 < cLine := hr.units
  refine ⟨_, PSs.nox ((pss_one (ps_ret (pe_op op_addU (pe_op op_addU (pe_slice sl_U (pv 0) po_none (po_some (pv 1))) (pe_bmK (K := K) rfl PySem.F.plainAttrs_str PySem.F.slot_str_join PySem.F.type_str_join (mt_joinK (K := K) rfl) (pe_strL (l := []) (by decide +kernel)) (pa_cons (pe_lc (own := [("_law_k", 3)]) rfl sc__law_turned.nd (pi_range2 (by rfl) T.z_range (pa_cons (pv 1) (pa_cons (pe_op op_addU (pv 2) pe_int) pa_nil))) (blkOk_by (own := [("_law_k", 3)]) (N := N__law_turned) (sc := defScope s__law_turned) (by decide +kernel)) (fun _ _ _ _ _ => (pg_name (i := 3) sc__law_turned.nd rfl (Or.inl rfl))) (fun _ _ _ _ _ => (pts_cut pts_nil)) (fun _ _ _ _ _ => (pe_cut (pe_ix (ix_K (K := K) rfl) (pv 0) (pe_op op_sub (pe_op op_addU (pv 2) (pv 1)) (pv 3)) (fun _ _ => rfl))))) pa_nil))) (pe_slice sl_U (pv 0) (po_some (pe_op op_addU (pv 2) pe_int)) po_none))))), ?_⟩
  obtain ⟨row, h, t, rfl, hh, ht, hl, k⟩ := h
  (generalize hst : L2.start _ _ = st0; simp only [L2.start, N__law_turned, List.map_cons, List.map_nil, List.length_cons, List.length_nil, Nat.reduceAdd, Nat.reduceSub, List.replicate_succ, List.replicate_zero, List.cons_append, List.nil_append, List.append_nil] at hst; subst hst)
  walk_at "go"
  refine lcX_1 walk_range (by omega) (fun i => (List.range i).map fun k => .str (S [row.getD (t - k) 0])) rfl (fun _ _ => trivial) (fun v => rfl) ?_ ?_
  · rintro i x H1 H2 hi e ⟨rfl, rfl⟩
    unfold LcStep
    walk_at "go"
    simp only [if_true]
    walk_at "go"
    refine ⟨Ex.refl _, _, rfl, .str _, ?_⟩
    rename_i c hc
    have ec : row.getD (t - i) 0 = c := by
      rw [List.getD_eq_getElem?_getD]
      have : ((t : Int) + h - (h + i)).toNat = t - i := by omega
      rw [← this, hc]; rfl
    rw [range_more, List.map_append]
    simp only [List.map_cons, List.map_nil, ec]
  · rintro p H2 acc hp e h2 r hacc
    have hA := rpall_signs r
    subst hA
    have en : ((t : Int) + 1 - h).toNat = t + 1 - h := by omega
    rw [en, rev_range hh ht] at h2
    have l1 := cutL_length row none (some (h : Int))
    have l2 := cutL_length row (some ((t : Int) + 1)) none
    walk_at "go"
    have eq : cutL row none (some (h : Int)) ++ ((row.drop h).take (t + 1 - h)).reverse ++ cutL row (some ((t : Int) + 1)) none = turnM row h t := by
      rw [cutL_to _ (by omega), cutL_from _ (by omega)]
      unfold turnM
      have : ((t : Int) + 1).toNat = t + 1 := by omega
      rw [this]; rfl
    rw [eq]
    exact k _ e
theorem use__law_turned {K : PySem.W.Frag} {row : List Nat} {h t : Nat} {H : Hp} {Q : VK} {E : XK} (hh : h ≤ t) (ht : t < row.length) (hl : row.length ≤ 1000) (k : ∀ H', Ex H H' → Q (Tx (turnM row h t)) H') : sp__law_turned K [Tx row, .int h, .int t] H Q E := ⟨row, h, t, rfl, hh, ht, hl, k⟩
local macro_rules | `(tactic| walk_at "st") => `(tactic| ((with_reducible refine use__law_turned ?hh ?ht ?hl ?hk); (case hh => walk_at "sz"); (case ht => walk_at "sz"); (case hl => walk_at "sz"); intro H2 e2))
def pf__law_turned : PF := fun ds R => ∃ (row : List Nat) (h t : Nat), ds = [.str row, .int h, .int t] ∧ h ≤ t ∧ t < row.length ∧ row.length ≤ 1000 ∧ R false (.str (turnM row h t))
theorem pu__law_turned {K : PySem.W.Frag} {E : XK} : PureOf (sp__law_turned K) pf__law_turned E := by
  rintro c L H vs ds Q R hh hf ⟨row, h, t, rfl, h1, h2, h3, hr⟩ k
  obtain ⟨v, ws, rfl, e1, v2, ws2, rfl, e2, v3, ws3, rfl, e3, e4⟩ := hf
  cases e1; cases e2; cases e3; cases e4
  exact ⟨row, h, t, rfl, h1, h2, h3, fun H' e => k _ _ _ _ hr (sub_str hh e _)⟩
abbrev N__law_lot_ends : List Str := ["_law_lot_here", "_law_rows", "_law_row_here"]
theorem sc__law_lot_ends : FnScope N__law_lot_ends ["_law_lot_here"] (defScope s__law_lot_ends) := ⟨rfl, rfl, rfl, by decide +kernel, rfl, by decide +kernel, by decide +kernel⟩
def pf__law_lot_ends : PF := fun ds R => ∃ rs : List (List Nat), ds = [.str (lotT rs)] ∧ RsOk rs ∧ rs ≠ [] ∧ (lotT rs).length ≤ 1000 ∧ R false (.str (endsLot rs))
theorem len__law_lot_ends : ∀ ds R, pf__law_lot_ends ds R → ds.length = 1 := by
  intro ds R h
  (repeat (first | (obtain ⟨e, _⟩ := h; exact congrArg List.length e) | (obtain ⟨_, h⟩ := h)))
theorem ok__law_lot_ends {P : Program} {w : World} {K : PySem.W.Frag} {mg : Str → Option Value} {base : Heap} (T : Txt K mg) : Has P w K mg base CX0 1 "_law_lot_ends" ["_law_lot_here"] (spZ pf__law_lot_ends) := by
  obtain ⟨f, fd, g, F⟩ := T.f__law_lot_ends
  refine ⟨f, fd, g, F.kp, F.bindsN (fun _ _ _ _ _ _ us hl => match us, hl with | [_], _ => rfl), F.ok sc__law_lot_ends (fun vs H Q E h => spZ_len (len__law_lot_ends) (K := K) vs H Q E h) (fun cdv A outer s H vs Q E hr h => ?_)⟩
  have hu64 : (A.deeper (envOfC "_law_lot_ends" (defScope s__law_lot_ends) s.heap.objs.size f cdv)).units + 64 < cLine := hr.units
  have hu : (A.deeper (envOfC "_law_lot_ends" (defScope s__law_lot_ends) s.heap.objs.size f cdv)).units + 1 < cLine := by omega
  obtain ⟨A0, Zd0, ds, R, hf, hi, hp0, k⟩ := h
  refine ⟨_, PSs.nox ((pss_cons (ps_setLc (i := 1) (own := [("_law_row_here", 2)]) rfl sc__law_lot_ends.nd rfl rfl (sw_true rfl rfl rfl (by decide +kernel)) (pi_anyK (K := K) rfl (pe_bmK (K := K) rfl PySem.F.plainAttrs_str PySem.F.slot_str_split PySem.F.type_str_split mt_splitS (pv 0) (pa_cons (pe_strL (l := [124]) (by decide +kernel)) pa_nil))) (blkOk_by (own := [("_law_row_here", 2)]) (N := N__law_lot_ends) (sc := defScope s__law_lot_ends) (by decide +kernel)) (fun _ _ _ _ _ => (pg_name (i := 2) sc__law_lot_ends.nd rfl (Or.inl rfl))) (fun _ _ _ _ _ => (pts_cut (pts_one (pt_cmpR (op_neK (K := K) rfl hu64) (pv 2) (pe_strL (l := []) (by decide +kernel)) (nomark _))))) (fun _ _ _ _ _ => (pe_cut (pv 2))))
      (pss_one (ps_ret (pe_bmK (K := K) rfl PySem.F.plainAttrs_str PySem.F.slot_str_join PySem.F.type_str_join (mt_joinK (K := K) rfl) (pe_strL (l := []) (by decide +kernel)) (pa_cons (pe_callB (cr_sortA (K := K) rfl rfl hu64) (by rfl) T.z_sorted (by decide +kernel) (pa_cons (pe_op op_addZ (pe_lc (own := [("_law_row_here", 2)]) rfl sc__law_lot_ends.nd (pi_anyK (K := K) rfl (pv 1)) (blkOk_by (own := [("_law_row_here", 2)]) (N := N__law_lot_ends) (sc := defScope s__law_lot_ends) (by decide +kernel)) (fun _ _ _ _ _ => (pg_name (i := 2) sc__law_lot_ends.nd rfl (Or.inl rfl))) (fun _ _ _ _ _ => (pts_cut pts_nil)) (fun _ _ _ _ _ => (pe_cut (pe_ix (ix_K (K := K) rfl) (pv 2) pe_int (fun _ _ => rfl))))) (pe_lc (own := [("_law_row_here", 2)]) rfl sc__law_lot_ends.nd (pi_anyK (K := K) rfl (pv 1)) (blkOk_by (own := [("_law_row_here", 2)]) (N := N__law_lot_ends) (sc := defScope s__law_lot_ends) (by decide +kernel)) (fun _ _ _ _ _ => (pg_name (i := 2) sc__law_lot_ends.nd rfl (Or.inl rfl))) (fun _ _ _ _ _ => (pts_cut pts_nil)) (fun _ _ _ _ _ => (pe_cut (pe_ix (ix_K (K := K) rfl) (pv 2) (pe_un un_neg pe_int) (fun _ _ => rfl)))))) pa_nil)) pa_nil)))))), ?_⟩
  refine z_run (n := 2) hf hi ?_ k (cs_seq (cs_set (i := 1) (ce_lc (vs := [2]) (ks := []) (ci_any (ce_str1 z_splitS (ce_var 0) (co_e ce_str))) (cg_name (by decide)) (ct_cut0 (ct_test (ce_op (co_s 2) (co_e ce_str) z_ne))) (ce_cut0 (ce_var 2))))
      (cs_ret (ce_join ce_str (co_e (ce_cb1 (co_e (ce_op (co_e (ce_lc (vs := [2]) (ks := []) (ci_any (ce_var 1)) (cg_name (by decide)) (ct_cut0 ct_yes) (ce_cut0 (ce_op (co_s 2) (co_e ce_int) z_ix)))) (co_e (ce_lc (vs := [2]) (ks := []) (ci_any (ce_var 1)) (cg_name (by decide)) (ct_cut0 ct_yes) (ce_cut0 (ce_op (co_s 2) (co_e (ce_un (co_e ce_int) z_neg)) z_ix)))) z_add)) z_sortA))))) ?_
  · rw [len__law_lot_ends ds R hp0]; rfl
  clear hf hi k
  clear hr hu64 hu
  obtain ⟨rs, rfl, h1, h2, hl, k⟩ := hp0
  have hrl := rows_few h1 hl
  have hel := ends_len rs
  have hot : okT (rs.flatMap fun r => [r.headD 0, r.getLastD 0]) := ends_okT h1
  walk_at "z"
  walk_at "lc"
  rw [split_lot h1]
  refine lc_fm ([] :: (rs ++ [[]])) .str (fun r => !decide (r = [])) .str rfl (by simp; omega) ?_ ?_
  · intro j r acc G hj hG
    walk_at "z"
    walk_at "nes"
    by_cases q : r = []
    · rw [if_neg (by simp [q])]
      rw [if_neg (by simp [q]), List.append_nil] at hG
      walk_at "z"
      exact hG
    · rw [if_pos (by simpa using q)]
      rw [if_pos (by simpa using q)] at hG
      walk_at "zz"
      exact hG
  · walk_at "z"
    rw [lot_flt h1]
    walk_at "lc"
    refine lc_map rs .str (fun r => .str [r.headD 0]) rfl (by omega) ?_ ?_
    · intro j r acc G hj hG
      have hm := List.mem_of_getElem? hj
      have hr := hrl.2.1 r hm
      have hpos : 0 < r.length := List.length_pos_iff.mpr (h1 r hm).1
      walk_at "zz"
      refine ⟨0, ⟨by omega, .inl rfl⟩, fun c0 hc0 => ?_⟩
      walk_at "zz"
      rw [hd_atL hc0] at hG
      exact hG
    · walk_at "z"
      walk_at "lc"
      refine lc_map rs .str (fun r => .str [r.getLastD 0]) rfl (by omega) ?_ ?_
      · intro j r acc G hj hG
        have hm := List.mem_of_getElem? hj
        have hr := hrl.2.1 r hm
        have hpos : 0 < r.length := List.length_pos_iff.mpr (h1 r hm).1
        walk_at "zz"
        refine ⟨r.length - 1, ⟨by omega, .inr (by omega)⟩, fun c1 hc1 => ?_⟩
        walk_at "zz"
        rw [last_at hc1] at hG
        exact hG
      · walk_at "z"
        have hp := ends_perm rs
        refine ⟨by rw [List.length_map, List.length_map]; omega, ?_⟩
        rw [show rs.map (fun r => Dt.str [r.headD 0]) ++ rs.map (fun r => Dt.str [r.getLastD 0]) = (rs.map (fun r => r.headD 0) ++ rs.map (fun r => r.getLastD 0)).map fun c => Dt.str [c] by rw [List.map_append, List.map_map, List.map_map]; rfl]
        refine zSort_signs (fun c hc => hot c (hp.mem_iff.mp hc)) ?_
        rw [sortN_perm hp]
        have hel2 : (endsLot rs).length ≤ 2000 := by unfold endsLot; rw [sortN_len]; omega
        exact zJoin_signs (m := endsLot rs) (by omega) k
theorem pu__law_lot_ends {E : XK} : PureOf (spZ pf__law_lot_ends) pf__law_lot_ends E := pure_spZ
abbrev N__law_first : List Str := ["_law_mine", "_law_yours", "_law_pair"]
theorem sc__law_first : FnScope N__law_first ["_law_mine", "_law_yours"] (defScope s__law_first) := ⟨rfl, rfl, rfl, by decide +kernel, rfl, by decide +kernel, by decide +kernel⟩
def pf__law_first : PF := fun ds R => ∃ (al bl : AL) (E F : List (List Nat)), ds = [dicD al, dicD bl] ∧ PosW al E ∧ PosW bl F ∧ E.length ≤ 1000 ∧ F.length ≤ 1000 ∧ (∀ k ∈ E, okT k) ∧ (∀ k ∈ F, okT k) ∧ R false (fapD E F)
theorem len__law_first : ∀ ds R, pf__law_first ds R → ds.length = 2 := by
  intro ds R h
  (repeat (first | (obtain ⟨e, _⟩ := h; exact congrArg List.length e) | (obtain ⟨_, h⟩ := h)))
theorem ok__law_first {P : Program} {w : World} {K : PySem.W.Frag} {mg : Str → Option Value} {base : Heap} (T : Txt K mg) : Has P w K mg base CX0 1 "_law_first" ["_law_mine", "_law_yours"] (spZ pf__law_first) := by
  obtain ⟨f, fd, g, F⟩ := T.f__law_first
  refine ⟨f, fd, g, F.kp, F.bindsN (fun _ _ _ _ _ _ us hl => match us, hl with | [_, _], _ => rfl), F.ok sc__law_first (fun vs H Q E h => spZ_len (len__law_first) (K := K) vs H Q E h) (fun cdv A outer s H vs Q E hr h => ?_)⟩
  have hu64 : (A.deeper (envOfC "_law_first" (defScope s__law_first) s.heap.objs.size f cdv)).units + 64 < cLine := hr.units
  have hu : (A.deeper (envOfC "_law_first" (defScope s__law_first) s.heap.objs.size f cdv)).units + 1 < cLine := by omega
  obtain ⟨A0, Zd0, ds, R, hf, hi, hp0, k⟩ := h
  refine ⟨_, PSs.nox ((pss_cons (ps_for PassesOwn.never rfl (pi_anyK (K := K) rfl (pe_callB (cr_sortA (K := K) rfl rfl hu64) (by rfl) T.z_sorted (by decide +kernel) (pa_cons (pe_op op_addZ (pe_callTy (call_listDk rfl) (by rfl) T.z_list (by decide +kernel) (pa_cons (pv 0) pa_nil)) (pe_callTy (call_listDk rfl) (by rfl) T.z_list (by decide +kernel) (pa_cons (pv 1) pa_nil))) pa_nil))) (pg_name (i := 2) sc__law_first.nd rfl (Or.inl rfl)) (pss_one (ps_if (pt_cmpR (op_neK (K := K) rfl hu64) (pe_dget2 hu (pv 0) (pv 2) pe_int ⟨rfl, rfl, rfl, rfl⟩) (pe_dget2 hu (pv 1) (pv 2) pe_int ⟨rfl, rfl, rfl, rfl⟩) (nomark _)) (pss_one (ps_ret (pe_tupX (pa_cons (pv 2) (pa_cons (pe_dget2 hu (pv 0) (pv 2) pe_int ⟨rfl, rfl, rfl, rfl⟩) (pa_cons (pe_dget2 hu (pv 1) (pv 2) pe_int ⟨rfl, rfl, rfl, rfl⟩) pa_nil)))))) pss_nil)))
      (pss_one (ps_ret pe_non)))), ?_⟩
  refine z_run (n := 1) hf hi ?_ k (cs_seq (cs_for (vs := [2]) (ci_any (ce_cb1 (co_e (ce_op (co_e (ce_cb1 (co_s 0) z_listD)) (co_e (ce_cb1 (co_s 1) z_listD)) z_add)) z_sortA)) (cg_name (by decide)) (cs_if (ct_test (ce_op (co_e (ce_dget2 (co_s 0) (co_s 2) ce_int)) (co_e (ce_dget2 (co_s 1) (co_s 2) ce_int)) z_ne)) (cs_ret (ce_tup (ca_cons (ce_var 2) (ca_cons (ce_dget2 (co_s 0) (co_s 2) ce_int) (ca_cons (ce_dget2 (co_s 1) (co_s 2) ce_int) ca_nil))))) cs_next))
      (cs_ret ce_non)) ?_
  · rw [len__law_first ds R hp0]; rfl
  clear hf hi k
  clear hr hu64 hu
  obtain ⟨al, bl, E, F, rfl, hE, hF, h1, h2, o1, o2, k⟩ := hp0
  have l1 := hE.len
  have l2 := hF.len
  walk_at "z"
  walk_at "for"
  rw [← List.map_append]
  refine zs_strs (fun x hx => ?_) ?_
  · rcases List.mem_append.mp hx with hx | hx
    · exact o1 x (hE.mem_key.mp hx)
    · exact o2 x (hF.mem_key.mp hx)
  have hmem : ∀ x, x ∈ sortT (al.map (·.1) ++ bl.map (·.1)) ↔ x ∈ setT (E ++ F) := fun x => by
    rw [setT_mem, show x ∈ sortT (al.map (·.1) ++ bl.map (·.1)) ↔ x ∈ al.map (·.1) ++ bl.map (·.1) from List.mem_mergeSort, List.mem_append, List.mem_append, hE.mem_key, hF.mem_key]
  have hfind : (sortT (al.map (·.1) ++ bl.map (·.1))).find? (fun t => decide (E.count t ≠ F.count t)) = fapM E F := find_same (sortT_sorted _) (sortT_sorted _) hmem
  generalize sortT (al.map (·.1) ++ bl.map (·.1)) = L at hfind
  refine for_l L .str (fun i s => ∃ x, s = [.fz (dicD al), .fz (dicD bl), x] ∧ (L.take i).find? (fun t => decide (E.count t ≠ F.count t)) = none) rfl ⟨_, rfl, rfl⟩ ?_ ?_
  · rintro i t s ht ⟨x, rfl, hn⟩
    walk_at "z"
    rw [cntD_get hE.int, cntD_get hF.int, hE.cnt, hF.cnt]
    walk_at "z"
    by_cases hc : E.count t = F.count t
    · rw [if_neg (by rw [decide_eq_true (by omega)]; decide)]
      walk_at "z"
      exact ⟨_, rfl, find_more ht hn (decide_eq_false (by simpa using hc))⟩
    · rw [if_pos (by rw [decide_eq_false (by omega)]; rfl)]
      have e : fapM E F = some t := hfind ▸ find_step ht hn (decide_eq_true hc)
      unfold fapD at k
      rw [e] at k
      walk_at "z"
      rw [cntD_get hE.int, cntD_get hF.int, hE.cnt, hF.cnt]
      walk_at "z"
      exact k
  · rintro s ⟨x, rfl, hn⟩
    walk_at "z"
    rw [List.take_length] at hn
    unfold fapD at k
    rw [show fapM E F = none from hfind ▸ hn] at k
    exact k
theorem pu__law_first {E : XK} : PureOf (spZ pf__law_first) pf__law_first E := pure_spZ
abbrev N__law_pairs : List Str := ["_law_row_here", "_law_found", "_law_k", "_law_pair"]
theorem sc__law_pairs : FnScope N__law_pairs ["_law_row_here"] (defScope s__law_pairs) := ⟨rfl, rfl, rfl, by decide +kernel, rfl, by decide +kernel, by decide +kernel⟩
def pf__law_pairs : PF := fun ds R => ∃ (row : List Nat), ds = [.str row] ∧ row.length ≤ 1000 ∧ R true (dicD (pairsM row))
theorem len__law_pairs : ∀ ds R, pf__law_pairs ds R → ds.length = 1 := by
  intro ds R h
  (repeat (first | (obtain ⟨e, _⟩ := h; exact congrArg List.length e) | (obtain ⟨_, h⟩ := h)))
theorem ok__law_pairs {P : Program} {w : World} {K : PySem.W.Frag} {mg : Str → Option Value} {base : Heap} (T : Txt K mg) : Has P w K mg base CX0 1 "_law_pairs" ["_law_row_here"] (spZ pf__law_pairs) := by
  obtain ⟨f, fd, g, F⟩ := T.f__law_pairs
  refine ⟨f, fd, g, F.kp, F.bindsN (fun _ _ _ _ _ _ us hl => match us, hl with | [_], _ => rfl), F.ok sc__law_pairs (fun vs H Q E h => spZ_len (len__law_pairs) (K := K) vs H Q E h) (fun cdv A outer s H vs Q E hr h => ?_)⟩
  have hu64 : (A.deeper (envOfC "_law_pairs" (defScope s__law_pairs) s.heap.objs.size f cdv)).units + 64 < cLine := hr.units
  have hu : (A.deeper (envOfC "_law_pairs" (defScope s__law_pairs) s.heap.objs.size f cdv)).units + 1 < cLine := by omega
  obtain ⟨A0, Zd0, ds, R, hf, hi, hp0, k⟩ := h
  refine ⟨_, PSs.nox ((pss_cons (ps_set (i := 1) sc__law_pairs.nd rfl (Or.inl rfl) pe_dnewK)
      (pss_cons (ps_for PassesOwn.never rfl (pi_range1 (by rfl) T.z_range (pa_cons (pe_op op_sub (pe_callB (call_lenK (K := K) rfl) (by rfl) T.z_len PySem.boot_len (pa_cons (pv 0) pa_nil)) pe_int) pa_nil)) (pg_name (i := 2) sc__law_pairs.nd rfl (Or.inl rfl)) (pss_cons (ps_set (i := 3) sc__law_pairs.nd rfl (Or.inl rfl) (pe_bmK (K := K) rfl PySem.F.plainAttrs_str PySem.F.slot_str_join PySem.F.type_str_join (mt_joinK (K := K) rfl) (pe_strL (l := []) (by decide +kernel)) (pa_cons (pe_callB (cr_sortA (K := K) rfl rfl hu64) (by rfl) T.z_sorted (by decide +kernel) (pa_cons (pe_slice sl_Z (pv 0) (po_some (pv 2)) (po_some (pe_op op_addZ (pv 2) pe_int))) pa_nil)) pa_nil)))
      (pss_one (ps_dput hu (pv 1) (pv 3) (pe_op op_addZ (pe_dget2 hu (pv 1) (pv 3) pe_int ⟨rfl, rfl, rfl, rfl⟩) pe_int) rfl))))
      (pss_one (ps_ret (pv 1)))))), ?_⟩
  refine z_run (n := 3) hf hi ?_ k (cs_seq (cs_set (i := 1) ce_dnew)
      (cs_seq (cs_for (vs := [2]) (ci_rng1 (ce_op (co_e (ce_cb1 (co_s 0) z_len)) (co_e ce_int) z_sub)) (cg_name (by decide)) (cs_seq (cs_set (i := 3) (ce_join ce_str (co_e (ce_cb1 (co_e (ce_sl (co_s 0) (cp_part (ce_var 2)) (cp_part (ce_op (co_s 2) (co_e ce_int) z_add)))) z_sortA))))
      (cs_dput (k := 1) (ce_var 3) (ce_op (co_e (ce_dget2 (co_s 1) (co_s 3) ce_int)) (co_e ce_int) z_add))))
      (cs_retV (k := 1)))) ?_
  · rw [len__law_pairs ds R hp0]; rfl
  clear hf hi k
  clear hr hu64 hu
  obtain ⟨row, rfl, hl, k⟩ := hp0
  walk_at "z"
  walk_at "for"
  have ei : ((List.range ((row.length : Int) - 1).toNat).map fun i : Nat => Dt.int (i : Int)) = (List.range (row.zip row.tail).length).map fun i : Nat => Dt.int (i : Int) := by
    congr 2
    rw [List.length_zip, List.length_tail]
    omega
  rw [ei]
  refine for_r (row.zip row.tail).length (fun i s => ∃ x y, s = [.fz (.str row), .ow (dicD (((row.zip row.tail).take i).foldl (fun al q => incD al (pairM q.1 q.2)) [])), x, y]) rfl ⟨_, _, rfl⟩ ?_ ?_
  · rintro i s hi ⟨x, y, rfl⟩
    have hq : (row.zip row.tail)[i]? = some (row.zip row.tail)[i] := List.getElem?_eq_getElem hi
    generalize (row.zip row.tail)[i] = q at hq
    obtain ⟨qa, qb⟩ := q
    obtain ⟨g1, g2⟩ := List.getElem?_zip_eq_some.mp hq
    rw [List.getElem?_tail] at g2
    have gl := (List.getElem?_eq_some_iff.mp g2).1
    obtain ⟨w1, w2⟩ := fold_int (fun q : Nat × Nat => pairM q.1 q.2) ((row.zip row.tail).take i) [] intD_nil
    have hlen : ((row.zip row.tail).take i).length ≤ 1000 := by simp; omega
    have em : ((row.zip row.tail).take (i + 1)).foldl (fun al q => incD al (pairM q.1 q.2)) [] = incD (((row.zip row.tail).take i).foldl (fun al q => incD al (pairM q.1 q.2)) []) (pairM qa qb) := by
      rw [List.take_add_one, hq, List.foldl_append]; rfl
    rw [em]
    generalize ((row.zip row.tail).take i).foldl (fun al q => incD al (pairM q.1 q.2)) [] = al at w1 w2 ⊢
    rw [List.length_nil] at w2
    have ec : cutL row (some (i : Int)) (some ((i : Int) + 2)) = [qa, qb] := by
      rw [cutL_both _ (by omega) (by omega), show ((i : Int)).toNat = i by omega, show ((i : Int) + 2).toNat - i = 2 by omega, List.drop_eq_getElem_cons (by omega), List.drop_eq_getElem_cons (by omega)]
      have e1 : row[i] = qa := (List.getElem?_eq_some_iff.mp g1).2
      have e2 : row[i + 1] = qb := (List.getElem?_eq_some_iff.mp g2).2
      rw [e1, e2]
      rfl
    walk_at "zz"
    rw [ec]
    refine ⟨by simp, ?_⟩
    rw [sortT_signs, sortN_pair, List.map_map]
    refine zJoin_signs (m := pairM qa qb) (by unfold pairM; split <;> simp) ?_
    walk_at "zz"
    rw [cntD_get w1]
    walk_at "zz"
    rw [incD_eq w1]
    exact ⟨_, _, rfl⟩
  · rintro s ⟨x, y, rfl⟩
    rw [List.take_length]
    walk_at "z"
    exact k
theorem pu__law_pairs {E : XK} : PureOf (spZ pf__law_pairs) pf__law_pairs E := pure_spZ
abbrev N__law_lots_parted : List Str := ["_law_one", "_law_other", "_law_mine", "_law_yours", "_law_found"]
theorem sc__law_lots_parted : FnScope N__law_lots_parted ["_law_one", "_law_other"] (defScope s__law_lots_parted) := ⟨rfl, rfl, rfl, by decide +kernel, rfl, by decide +kernel, by decide +kernel⟩
def pf__law_lots_parted : PF := fun ds R => ∃ rs qs : List (List Nat), ds = [.str (lotT rs), .str (lotT qs)] ∧ RsOk rs ∧ RsOk qs ∧ rs ≠ [] ∧ qs ≠ [] ∧ (lotT rs).length ≤ 40 ∧ (lotT qs).length ≤ 40 ∧ R false (partLot rs qs)
theorem len__law_lots_parted : ∀ ds R, pf__law_lots_parted ds R → ds.length = 2 := by
  intro ds R h
  (repeat (first | (obtain ⟨e, _⟩ := h; exact congrArg List.length e) | (obtain ⟨_, h⟩ := h)))
theorem ok__law_lots_parted {P : Program} {w : World} {K : PySem.W.Frag} {mg : Str → Option Value} {base : Heap} (T : Txt K mg) : Has P w K mg base CX0 2 "_law_lots_parted" ["_law_one", "_law_other"] (spZ pf__law_lots_parted) := by
  obtain ⟨f, fd, g, F⟩ := T.f__law_lots_parted
  obtain ⟨f__law_first, fd__law_first, g__law_first, kp__law_first, b__law_first, G__law_first⟩ := (ok__law_first (P := P) (w := w) (K := K) (mg := mg) (base := base) T).ex
  obtain ⟨f__law_lot_ends, fd__law_lot_ends, g__law_lot_ends, kp__law_lot_ends, b__law_lot_ends, G__law_lot_ends⟩ := (ok__law_lot_ends (P := P) (w := w) (K := K) (mg := mg) (base := base) T).ex
  obtain ⟨f__law_pairs, fd__law_pairs, g__law_pairs, kp__law_pairs, b__law_pairs, G__law_pairs⟩ := (ok__law_pairs (P := P) (w := w) (K := K) (mg := mg) (base := base) T).ex
  refine ⟨f, fd, g, F.kp, F.bindsN (fun _ _ _ _ _ _ us hl => match us, hl with | [_, _], _ => rfl), F.ok sc__law_lots_parted (fun vs H Q E h => spZ_len (len__law_lots_parted) (K := K) vs H Q E h) (fun cdv A outer s H vs Q E hr h => ?_)⟩
  have hu64 : (A.deeper (envOfC "_law_lots_parted" (defScope s__law_lots_parted) s.heap.objs.size f cdv)).units + 64 < cLine := hr.units
  have hu : (A.deeper (envOfC "_law_lots_parted" (defScope s__law_lots_parted) s.heap.objs.size f cdv)).units + 1 < cLine := by omega
  obtain ⟨A0, Zd0, ds, R, hf, hi, hp0, k⟩ := h
  refine ⟨_, PSs.nox ((pss_cons (ps_par (i := 2) (j := 3) (by rfl) sc__law_lots_parted.nd rfl rfl (by decide) rfl rfl (pa_cons (pe_call G__law_lot_ends (hr.mono (by decide)) rfl g__law_lot_ends kp__law_lot_ends b__law_lot_ends .nil pass0 (pa_cons (pv 0) pa_nil)) (pa_cons (pe_call G__law_lot_ends (hr.mono (by decide)) rfl g__law_lot_ends kp__law_lot_ends b__law_lot_ends .nil pass0 (pa_cons (pv 1) pa_nil)) pa_nil)) (by rfl))
      (pss_cons (ps_if (pt_cmpR (op_neK (K := K) rfl hu64) (pv 2) (pv 3) (nomark _)) (pss_one (ps_ret (pe_tupX (pa_cons (pe_strL (l := [101, 110, 100, 115]) (by decide +kernel)) (pa_cons (pv 2) (pa_cons (pv 3) pa_nil)))))) pss_nil)
      (pss_cons (ps_set (i := 4) sc__law_lots_parted.nd rfl (Or.inl rfl) (pe_call G__law_first (hr.mono (by decide)) rfl g__law_first kp__law_first b__law_first .nil pass0 (pa_cons (pe_call G__law_pairs (hr.mono (by decide)) rfl g__law_pairs kp__law_pairs b__law_pairs .nil pass0 (pa_cons (pv 0) pa_nil)) (pa_cons (pe_call G__law_pairs (hr.mono (by decide)) rfl g__law_pairs kp__law_pairs b__law_pairs .nil pass0 (pa_cons (pv 1) pa_nil)) pa_nil))))
      (pss_one (ps_ret (pe_cut (pe_ifExp (pt_cmpR op_notN1 (pv 4) pe_non (nomark _)) (pe_op op_addZ (pe_tupX (pa_cons (pe_strL (l := [112, 97, 105, 114]) (by decide +kernel)) pa_nil)) (pv 4)) pe_non)))))))), ?_⟩
  refine z_run (n := 3) hf hi ?_ k (cs_seq (cs_par (ce_call (ca_cons (ce_var 0) ca_nil) pu__law_lot_ends) (ce_call (ca_cons (ce_var 1) ca_nil) pu__law_lot_ends))
      (cs_seq (cs_if (ct_test (ce_op (co_s 2) (co_s 3) z_ne)) (cs_ret (ce_tup (ca_cons ce_str (ca_cons (ce_var 2) (ca_cons (ce_var 3) ca_nil))))) cs_next)
      (cs_seq (cs_set (i := 4) (ce_call (ca_cons (ce_call (ca_cons (ce_var 0) ca_nil) pu__law_pairs) (ca_cons (ce_call (ca_cons (ce_var 1) ca_nil) pu__law_pairs) ca_nil)) pu__law_first))
      (cs_ret (ce_cut0 (ce_if (ct_test (ce_op (co_s 4) (co_e ce_non) z_notN)) (ce_op (co_e (ce_tup (ca_cons ce_str ca_nil))) (co_s 4) z_add) ce_non)))))) ?_
  · rw [len__law_lots_parted ds R hp0]; rfl
  clear hf hi k
  clear hr hu64 hu G__law_first b__law_first kp__law_first g__law_first G__law_lot_ends b__law_lot_ends kp__law_lot_ends g__law_lot_ends G__law_pairs b__law_pairs kp__law_pairs g__law_pairs
  obtain ⟨rs, qs, rfl, h1, g1, h2, g2, hl, gl, k⟩ := hp0
  walk_at "z"
  refine ⟨rs, rfl, h1, h2, by omega, ?_⟩
  walk_at "z"
  refine ⟨qs, rfl, g1, g2, by omega, ?_⟩
  walk_at "z"
  walk_at "nes"
  unfold partLot at k
  have o1 := lotT_okT h1
  have o2 := lotT_okT g1
  by_cases he : endsLot rs = endsLot qs
  · rw [if_pos he] at k
    rw [if_neg (by simp [he])]
    walk_at "z"
    refine ⟨lotT rs, rfl, by omega, ?_⟩
    walk_at "z"
    refine ⟨lotT qs, rfl, by omega, ?_⟩
    walk_at "z"
    refine ⟨_, _, _, _, rfl, pairs_pos _, pairs_pos _, by rw [adj_len]; omega, by rw [adj_len]; omega, adj_okT o1, adj_okT o2, ?_⟩
    unfold fapD at k ⊢
    cases hf : fapM (adjM (lotT rs)) (adjM (lotT qs)) with
    | none =>
      rw [hf] at k
      walk_at "z"
      exact k
    | some t =>
      rw [hf] at k
      walk_at "zz"
      exact k
  · rw [if_neg he] at k
    rw [if_pos (by simpa using he)]
    walk_at "z"
    exact k
theorem pu__law_lots_parted {E : XK} : PureOf (spZ pf__law_lots_parted) pf__law_lots_parted E := pure_spZ
abbrev N_ends_in : List Str := ["lot", "row"]
theorem sc_ends_in : FnScope N_ends_in ["lot"] (defScope s_ends_in) := ⟨rfl, rfl, rfl, by decide +kernel, rfl, by decide +kernel, by decide +kernel⟩
def pf_ends_in : PF := fun ds R => ∃ rs : List (List Nat), ds = [.str (lotT rs)] ∧ RsOk rs ∧ rs ≠ [] ∧ (lotT rs).length ≤ 1000 ∧ R false (.str (endsLot rs))
theorem len_ends_in : ∀ ds R, pf_ends_in ds R → ds.length = 1 := by
  intro ds R h
  (repeat (first | (obtain ⟨e, _⟩ := h; exact congrArg List.length e) | (obtain ⟨_, h⟩ := h)))
theorem ok_ends_in {P : Program} {w : World} {K : PySem.W.Frag} {mg : Str → Option Value} {base : Heap} (T : Txt K mg) : Has P w K mg base CX0 2 "ends_in" ["lot"] (spZ pf_ends_in) := by
  obtain ⟨f, fd, g, F⟩ := T.f_ends_in
  obtain ⟨f_rows_in, fd_rows_in, g_rows_in, kp_rows_in, b_rows_in, G_rows_in⟩ := (ok_rows_in (P := P) (w := w) (K := K) (mg := mg) (base := base) T).ex
  refine ⟨f, fd, g, F.kp, F.bindsN (fun _ _ _ _ _ _ us hl => match us, hl with | [_], _ => rfl), F.ok sc_ends_in (fun vs H Q E h => spZ_len (len_ends_in) (K := K) vs H Q E h) (fun cdv A outer s H vs Q E hr h => ?_)⟩
  have hu64 : (A.deeper (envOfC "ends_in" (defScope s_ends_in) s.heap.objs.size f cdv)).units + 64 < cLine := hr.units
  have hu : (A.deeper (envOfC "ends_in" (defScope s_ends_in) s.heap.objs.size f cdv)).units + 1 < cLine := by omega
  obtain ⟨A0, Zd0, ds, R, hf, hi, hp0, k⟩ := h
  refine ⟨_, PSs.nox ((pss_one (ps_ret (pe_bmK (K := K) rfl PySem.F.plainAttrs_str PySem.F.slot_str_join PySem.F.type_str_join (mt_joinK (K := K) rfl) (pe_strL (l := []) (by decide +kernel)) (pa_cons (pe_callB (cr_sortA (K := K) rfl rfl hu64) (by rfl) T.z_sorted (by decide +kernel) (pa_cons (pe_bmK (K := K) rfl PySem.F.plainAttrs_str PySem.F.slot_str_join PySem.F.type_str_join (mt_joinK (K := K) rfl) (pe_strL (l := []) (by decide +kernel)) (pa_cons (pe_lc (own := [("row", 1)]) rfl sc_ends_in.nd (pi_anyK (K := K) rfl (pe_call G_rows_in (hr.mono (by decide)) rfl g_rows_in kp_rows_in b_rows_in .nil pass0 (pa_cons (pv 0) pa_nil))) (blkOk_by (own := [("row", 1)]) (N := N_ends_in) (sc := defScope s_ends_in) (by decide +kernel)) (fun _ _ _ _ _ => (pg_name (i := 1) sc_ends_in.nd rfl (Or.inl rfl))) (fun _ _ _ _ _ => (pts_cut pts_nil)) (fun _ _ _ _ _ => (pe_cut (pe_op op_addZ (pe_ix (ix_K (K := K) rfl) (pv 1) pe_int (fun _ _ => rfl)) (pe_ix (ix_K (K := K) rfl) (pv 1) (pe_un un_neg pe_int) (fun _ _ => rfl)))))) pa_nil)) pa_nil)) pa_nil))))), ?_⟩
  refine z_run (n := 1) hf hi ?_ k (cs_ret (ce_join ce_str (co_e (ce_cb1 (co_e (ce_join ce_str (co_e (ce_lc (vs := [1]) (ks := []) (ci_any (ce_call (ca_cons (ce_var 0) ca_nil) pu_rows_in)) (cg_name (by decide)) (ct_cut0 ct_yes) (ce_cut0 (ce_op (co_e (ce_op (co_s 1) (co_e ce_int) z_ix)) (co_e (ce_op (co_s 1) (co_e (ce_un (co_e ce_int) z_neg)) z_ix)) z_add)))))) z_sortA)))) ?_
  · rw [len_ends_in ds R hp0]; rfl
  clear hf hi k
  clear hr hu64 hu G_rows_in b_rows_in kp_rows_in g_rows_in
  obtain ⟨rs, rfl, h1, h2, hl, k⟩ := hp0
  have hrl := rows_few h1 hl
  have hel := ends_len rs
  have hot : okT (rs.flatMap fun r => [r.headD 0, r.getLastD 0]) := ends_okT h1
  walk_at "z"
  walk_at "lc"
  refine ⟨rs, rfl, h1, h2, hl, ?_⟩
  walk_at "z"
  refine lc_map rs .str (fun r => .str [r.headD 0, r.getLastD 0]) rfl (by omega) ?_ ?_
  · intro j r acc G hj hG
    have hm := List.mem_of_getElem? hj
    have hr := hrl.2.1 r hm
    have hpos : 0 < r.length := List.length_pos_iff.mpr (h1 r hm).1
    walk_at "zz"
    refine ⟨0, ⟨by omega, .inl rfl⟩, fun c0 hc0 => ?_⟩
    walk_at "zz"
    refine ⟨r.length - 1, ⟨by omega, .inr (by omega)⟩, fun c1 hc1 => ?_⟩
    walk_at "zz"
    rw [hd_atL hc0, last_at hc1] at hG
    exact hG
  · walk_at "z"
    rw [show rs.map (fun r => Dt.str [r.headD 0, r.getLastD 0]) = (rs.map fun r => [r.headD 0, r.getLastD 0]).map .str by rw [List.map_map]; rfl]
    have hsum : ((rs.map fun r => [r.headD 0, r.getLastD 0]).map (·.length)).sum ≤ 2 * rs.length := by
      rw [List.map_map]
      exact sum_leK fun x hx => Nat.le_refl _
    refine zJoin_l (by rw [List.length_map]; simp only [List.length_nil]; omega) ?_
    rw [joinL_nil, show (rs.map fun r => [r.headD 0, r.getLastD 0]).flatten = rs.flatMap fun r => [r.headD 0, r.getLastD 0] from (List.flatMap_def ..).symm]
    rw [zSortA_s]
    refine ⟨by omega, ?_⟩
    rw [sortT_signs, show ((sortN (rs.flatMap fun r => [r.headD 0, r.getLastD 0])).map fun c => [c]).map Dt.str = (endsLot rs).map fun c => .str [c] by rw [List.map_map]; rfl]
    have hel2 : (endsLot rs).length ≤ 2000 := by unfold endsLot; rw [sortN_len]; omega
    refine zJoin_signs (by omega) k
theorem pu_ends_in {E : XK} : PureOf (spZ pf_ends_in) pf_ends_in E := pure_spZ
abbrev N_first_unlike : List Str := ["mine", "yours", "pair", "one"]
theorem sc_first_unlike : FnScope N_first_unlike ["mine", "yours"] (defScope s_first_unlike) := ⟨rfl, rfl, rfl, by decide +kernel, rfl, by decide +kernel, by decide +kernel⟩
def pf_first_unlike : PF := fun ds R => ∃ (al bl : AL) (E F : List (List Nat)), ds = [dicD al, dicD bl] ∧ PosW al E ∧ PosW bl F ∧ E.length ≤ 1000 ∧ F.length ≤ 1000 ∧ R false (fapD E F)
theorem len_first_unlike : ∀ ds R, pf_first_unlike ds R → ds.length = 2 := by
  intro ds R h
  (repeat (first | (obtain ⟨e, _⟩ := h; exact congrArg List.length e) | (obtain ⟨_, h⟩ := h)))
theorem ok_first_unlike {P : Program} {w : World} {K : PySem.W.Frag} {mg : Str → Option Value} {base : Heap} (T : Txt K mg) : Has P w K mg base CX0 1 "first_unlike" ["mine", "yours"] (spZ pf_first_unlike) := by
  obtain ⟨f, fd, g, F⟩ := T.f_first_unlike
  refine ⟨f, fd, g, F.kp, F.bindsN (fun _ _ _ _ _ _ us hl => match us, hl with | [_, _], _ => rfl), F.ok sc_first_unlike (fun vs H Q E h => spZ_len (len_first_unlike) (K := K) vs H Q E h) (fun cdv A outer s H vs Q E hr h => ?_)⟩
  have hu64 : (A.deeper (envOfC "first_unlike" (defScope s_first_unlike) s.heap.objs.size f cdv)).units + 64 < cLine := hr.units
  have hu : (A.deeper (envOfC "first_unlike" (defScope s_first_unlike) s.heap.objs.size f cdv)).units + 1 < cLine := by omega
  obtain ⟨A0, Zd0, ds, R, hf, hi, hp0, k⟩ := h
  refine ⟨_, PSs.nox ((pss_cons (ps_for PassesOwn.never rfl (pi_anyK (K := K) rfl (pe_callB (cr_sortDk rfl hu64) (by rfl) T.z_sorted (by decide +kernel) (pa_cons (pe_dc (own := [("one", 3)]) rfl sc_first_unlike.nd (pi_anyK (K := K) rfl (pe_op op_addZ (pe_callTy (call_listDk rfl) (by rfl) T.z_list (by decide +kernel) (pa_cons (pv 0) pa_nil)) (pe_callTy (call_listDk rfl) (by rfl) T.z_list (by decide +kernel) (pa_cons (pv 1) pa_nil)))) (blkOk_by (own := [("one", 3)]) (N := N_first_unlike) (sc := defScope s_first_unlike) (by decide +kernel)) (fun _ _ _ _ _ => (pg_name (i := 3) sc_first_unlike.nd rfl (Or.inl rfl))) (fun _ _ _ _ _ => (pts_cut pts_nil)) (fun _ _ _ _ _ => (pe_cut (pv 3))) (fun _ _ _ _ _ => (pe_cut pe_bl))) pa_nil))) (pg_name (i := 2) sc_first_unlike.nd rfl (Or.inl rfl)) (pss_one (ps_if (pt_cmpR (op_neK (K := K) rfl hu64) (pe_dget2 hu (pv 0) (pv 2) pe_int ⟨rfl, rfl, rfl, rfl⟩) (pe_dget2 hu (pv 1) (pv 2) pe_int ⟨rfl, rfl, rfl, rfl⟩) (nomark _)) (pss_one (ps_ret (pe_tupX (pa_cons (pv 2) (pa_cons (pe_dget2 hu (pv 0) (pv 2) pe_int ⟨rfl, rfl, rfl, rfl⟩) (pa_cons (pe_dget2 hu (pv 1) (pv 2) pe_int ⟨rfl, rfl, rfl, rfl⟩) pa_nil)))))) pss_nil)))
      (pss_one (ps_ret pe_non)))), ?_⟩
  refine z_run (n := 2) hf hi ?_ k (cs_seq (cs_for (vs := [2]) (ci_any (ce_cb1 (co_e (ce_dc (vs := [3]) (ks := []) (ci_any (ce_op (co_e (ce_cb1 (co_s 0) z_listD)) (co_e (ce_cb1 (co_s 1) z_listD)) z_add)) (fun _ => (cg_name (by decide))) (fun _ => ct_cut0 ct_yes) (fun _ => ce_cut0 (ce_var 3)) (fun _ => ce_cut0 ce_bl))) z_srtDk)) (cg_name (by decide)) (cs_if (ct_test (ce_op (co_e (ce_dget2 (co_s 0) (co_s 2) ce_int)) (co_e (ce_dget2 (co_s 1) (co_s 2) ce_int)) z_ne)) (cs_ret (ce_tup (ca_cons (ce_var 2) (ca_cons (ce_dget2 (co_s 0) (co_s 2) ce_int) (ca_cons (ce_dget2 (co_s 1) (co_s 2) ce_int) ca_nil))))) cs_next))
      (cs_ret ce_non)) ?_
  · rw [len_first_unlike ds R hp0]; rfl
  clear hf hi k
  clear hr hu64 hu
  obtain ⟨al, bl, E, F, rfl, hE, hF, h1, h2, k⟩ := hp0
  have l1 := hE.len
  have l2 := hF.len
  walk_at "z"
  walk_at "for"
  walk_at "dc"
  have ek : (al.map (·.1)).map Dt.str ++ (bl.map (·.1)).map Dt.str = ((al.map (·.1) ++ bl.map (·.1)).map fun k => (k, Dt.bl true)).map fun p => Dt.str p.1 := by
    simp [List.map_map, Function.comp_def]
  refine ow_f ((al.map (·.1) ++ bl.map (·.1)).map fun k => (k, Dt.bl true)) (fun p => Dt.str p.1) (fun acc p => putD acc p.1 p.2) ek ?_ ?_
  · intro i p acc G hi hacc hG
    obtain ⟨k9, rfl⟩ : ∃ k9, p = (k9, Dt.bl true) := by
      obtain ⟨k9, _, e⟩ := List.mem_map.mp (List.mem_of_getElem? hi)
      exact ⟨k9, e.symm⟩
    have hal : acc.length ≤ 2000 := by
      have := merge_len (((al.map (·.1) ++ bl.map (·.1)).map fun k => (k, Dt.bl true)).take i) []
      rw [hacc]
      refine Nat.le_trans this ?_
      simp
      omega
    walk_at "zz"
    exact hG
  · rw [show (((al.map (·.1) ++ bl.map (·.1)).map fun k => (k, Dt.bl true)).foldl (fun acc p => putD acc p.1 p.2) []) = mergeD ((al.map (·.1) ++ bl.map (·.1)).map fun k => (k, Dt.bl true)) from rfl]
    have hml : (mergeD ((al.map (·.1) ++ bl.map (·.1)).map fun k => (k, Dt.bl true))).length ≤ 2000 := by
      refine Nat.le_trans (merge_len _ _) ?_
      simp
      omega
    rw [sort_merge]
    have hset : setT (al.map (·.1) ++ bl.map (·.1)) = setT (E ++ F) := by
      refine rise_same (sortT_sorted _) (sortT_sorted _) (setT_nodup _) (setT_nodup _) fun x => ?_
      rw [setT_mem, setT_mem, List.mem_append, List.mem_append, hE.mem_key, hF.mem_key]
    rw [hset]
    refine ⟨by omega, ?_⟩
    refine for_l (setT (E ++ F)) .str (fun i s => ∃ x, s = [.fz (dicD al), .fz (dicD bl), x, .un] ∧ ((setT (E ++ F)).take i).find? (fun t => decide (E.count t ≠ F.count t)) = none) rfl ⟨_, rfl, rfl⟩ ?_ ?_
    · rintro i t s ht ⟨x, rfl, hn⟩
      walk_at "z"
      rw [cntD_get hE.int, cntD_get hF.int, hE.cnt, hF.cnt]
      walk_at "z"
      by_cases hc : E.count t = F.count t
      · rw [if_neg (by rw [decide_eq_true (by omega)]; decide)]
        walk_at "z"
        exact ⟨_, rfl, find_more ht hn (decide_eq_false (by simpa using hc))⟩
      · rw [if_pos (by rw [decide_eq_false (by omega)]; rfl)]
        have e : fapM E F = some t := find_step ht hn (decide_eq_true hc)
        unfold fapD at k
        rw [e] at k
        walk_at "z"
        rw [cntD_get hE.int, cntD_get hF.int, hE.cnt, hF.cnt]
        walk_at "z"
        exact k
    · rintro s ⟨x, rfl, hn⟩
      walk_at "z"
      rw [List.take_length] at hn
      unfold fapD at k
      rw [show fapM E F = none from hn] at k
      exact k
theorem pu_first_unlike {E : XK} : PureOf (spZ pf_first_unlike) pf_first_unlike E := pure_spZ
abbrev N_pair_of : List Str := ["one", "other"]
theorem sc_pair_of : FnScope N_pair_of ["one", "other"] (defScope s_pair_of) := ⟨rfl, rfl, rfl, by decide +kernel, rfl, by decide +kernel, by decide +kernel⟩
def pf_pair_of : PF := fun ds R => ∃ (a b : Nat), ds = [.str [a], .str [b]] ∧ R false (.str (pairM a b))
theorem len_pair_of : ∀ ds R, pf_pair_of ds R → ds.length = 2 := by
  intro ds R h
  (repeat (first | (obtain ⟨e, _⟩ := h; exact congrArg List.length e) | (obtain ⟨_, h⟩ := h)))
theorem ok_pair_of {P : Program} {w : World} {K : PySem.W.Frag} {mg : Str → Option Value} {base : Heap} (T : Txt K mg) : Has P w K mg base CX0 1 "pair_of" ["one", "other"] (spZ pf_pair_of) := by
  obtain ⟨f, fd, g, F⟩ := T.f_pair_of
  refine ⟨f, fd, g, F.kp, F.bindsN (fun _ _ _ _ _ _ us hl => match us, hl with | [_, _], _ => rfl), F.ok sc_pair_of (fun vs H Q E h => spZ_len (len_pair_of) (K := K) vs H Q E h) (fun cdv A outer s H vs Q E hr h => ?_)⟩
  have hu64 : (A.deeper (envOfC "pair_of" (defScope s_pair_of) s.heap.objs.size f cdv)).units + 64 < cLine := hr.units
  have hu : (A.deeper (envOfC "pair_of" (defScope s_pair_of) s.heap.objs.size f cdv)).units + 1 < cLine := by omega
  obtain ⟨A0, Zd0, ds, R, hf, hi, hp0, k⟩ := h
  refine ⟨_, PSs.nox ((pss_one (ps_ret (pe_cut (pe_ifExp (pt_cmpR op_leU (pv 0) (pv 1) (nomark _)) (pe_op op_addZ (pv 0) (pv 1)) (pe_op op_addZ (pv 1) (pv 0))))))), ?_⟩
  refine z_run (n := 0) hf hi ?_ k (cs_ret (ce_cut0 (ce_if (ct_test (ce_op (co_s 0) (co_s 1) z_le)) (ce_op (co_s 0) (co_s 1) z_add) (ce_op (co_s 1) (co_s 0) z_add)))) ?_
  · rw [len_pair_of ds R hp0]; rfl
  clear hf hi k
  clear hr hu64 hu
  obtain ⟨a, b, rfl, k⟩ := hp0
  walk_at "z"
  unfold pairM at k
  by_cases h : a ≤ b
  · rw [decide_eq_true h]
    walk_at "zz"
    rw [if_pos h] at k
    exact k
  · rw [decide_eq_false h]
    walk_at "zz"
    rw [if_neg h] at k
    exact k
theorem pu_pair_of {E : XK} : PureOf (spZ pf_pair_of) pf_pair_of E := pure_spZ
abbrev N_pairs_of : List Str := ["row", "found", "one", "other", "pair"]
theorem sc_pairs_of : FnScope N_pairs_of ["row"] (defScope s_pairs_of) := ⟨rfl, rfl, rfl, by decide +kernel, rfl, by decide +kernel, by decide +kernel⟩
def pf_pairs_of : PF := fun ds R => ∃ (row : List Nat), ds = [.str row] ∧ row.length ≤ 1000 ∧ R false (dicD (pairsM row))
theorem len_pairs_of : ∀ ds R, pf_pairs_of ds R → ds.length = 1 := by
  intro ds R h
  (repeat (first | (obtain ⟨e, _⟩ := h; exact congrArg List.length e) | (obtain ⟨_, h⟩ := h)))
theorem ok_pairs_of {P : Program} {w : World} {K : PySem.W.Frag} {mg : Str → Option Value} {base : Heap} (T : Txt K mg) : Has P w K mg base CX0 2 "pairs_of" ["row"] (spZ pf_pairs_of) := by
  obtain ⟨f, fd, g, F⟩ := T.f_pairs_of
  obtain ⟨f_pair_of, fd_pair_of, g_pair_of, kp_pair_of, b_pair_of, G_pair_of⟩ := (ok_pair_of (P := P) (w := w) (K := K) (mg := mg) (base := base) T).ex
  refine ⟨f, fd, g, F.kp, F.bindsN (fun _ _ _ _ _ _ us hl => match us, hl with | [_], _ => rfl), F.ok sc_pairs_of (fun vs H Q E h => spZ_len (len_pairs_of) (K := K) vs H Q E h) (fun cdv A outer s H vs Q E hr h => ?_)⟩
  have hu64 : (A.deeper (envOfC "pairs_of" (defScope s_pairs_of) s.heap.objs.size f cdv)).units + 64 < cLine := hr.units
  have hu : (A.deeper (envOfC "pairs_of" (defScope s_pairs_of) s.heap.objs.size f cdv)).units + 1 < cLine := by omega
  obtain ⟨A0, Zd0, ds, R, hf, hi, hp0, k⟩ := h
  refine ⟨_, PSs.nox ((pss_cons (ps_set (i := 1) sc_pairs_of.nd rfl (Or.inl rfl) pe_dnewK)
      (pss_cons (ps_for PassesOwn.never rfl (pi_zipX (by rfl) T.z_zip (pa_cons (pv 0) (pa_cons (pe_slice sl_Z (pv 0) (po_some pe_int) po_none) pa_nil))) (pg_tupK (K := K) (n := 2) rfl (by rfl) (pgs_cons (pg_name (i := 2) sc_pairs_of.nd rfl (Or.inl rfl)) (pgs_cons (pg_name (i := 3) sc_pairs_of.nd rfl (Or.inl rfl)) pgs_nil))) (pss_cons (ps_set (i := 4) sc_pairs_of.nd rfl (Or.inl rfl) (pe_call G_pair_of (hr.mono (by decide)) rfl g_pair_of kp_pair_of b_pair_of .nil pass0 (pa_cons (pv 2) (pa_cons (pv 3) pa_nil))))
      (pss_one (ps_dput hu (pv 1) (pv 4) (pe_op op_addZ (pe_dget2 hu (pv 1) (pv 4) pe_int ⟨rfl, rfl, rfl, rfl⟩) pe_int) rfl))))
      (pss_one (ps_ret (pv 1)))))), ?_⟩
  refine z_run (n := 4) hf hi ?_ k (cs_seq (cs_set (i := 1) ce_dnew)
      (cs_seq (cs_for (vs := [2, 3]) (ci_zipX (ce_var 0) (ce_sl (co_s 0) (cp_part ce_int) cp_no)) (cg_tup (cgs_cons (cg_name (by decide)) (cgs_cons (cg_name (by decide)) cgs_nil))) (cs_seq (cs_set (i := 4) (ce_call (ca_cons (ce_var 2) (ca_cons (ce_var 3) ca_nil)) pu_pair_of))
      (cs_dput (k := 1) (ce_var 4) (ce_op (co_e (ce_dget2 (co_s 1) (co_s 4) ce_int)) (co_e ce_int) z_add))))
      (cs_ret (ce_var 1)))) ?_
  · rw [len_pairs_of ds R hp0]; rfl
  clear hf hi k
  clear hr hu64 hu G_pair_of b_pair_of kp_pair_of g_pair_of
  obtain ⟨row, rfl, hl, k⟩ := hp0
  walk_at "z"
  walk_at "for"
  rw [zipD_signs, cutL_from _ (by decide)]
  have ez : row.drop (1 : Int).toNat = row.tail := by cases row <;> rfl
  rw [ez]
  refine for_l (row.zip row.tail) _ (fun i s => ∃ x y z, s = [.fz (.str row), .ow (dicD (((row.zip row.tail).take i).foldl (fun al q => incD al (pairM q.1 q.2)) [])), x, y, z]) rfl ⟨_, _, _, rfl⟩ ?_ ?_
  · rintro i q s hq ⟨x, y, z, rfl⟩
    obtain ⟨w1, w2⟩ := fold_int (fun q : Nat × Nat => pairM q.1 q.2) ((row.zip row.tail).take i) [] intD_nil
    have hlen : ((row.zip row.tail).take i).length ≤ 1000 := by simp; omega
    have em : ((row.zip row.tail).take (i + 1)).foldl (fun al q => incD al (pairM q.1 q.2)) [] = incD (((row.zip row.tail).take i).foldl (fun al q => incD al (pairM q.1 q.2)) []) (pairM q.1 q.2) := by
      rw [List.take_add_one, hq, List.foldl_append]; rfl
    rw [em]
    generalize ((row.zip row.tail).take i).foldl (fun al q => incD al (pairM q.1 q.2)) [] = al at w1 w2 ⊢
    rw [List.length_nil] at w2
    walk_at "zz"
    refine ⟨q.1, q.2, rfl, ?_⟩
    walk_at "zz"
    rw [cntD_get w1]
    walk_at "zz"
    rw [incD_eq w1]
    exact ⟨_, _, _, rfl⟩
  · rintro s ⟨x, y, z, rfl⟩
    rw [List.take_length]
    walk_at "z"
    exact k
theorem pu_pairs_of {E : XK} : PureOf (spZ pf_pairs_of) pf_pairs_of E := pure_spZ
abbrev N_lots_parted : List Str := ["one", "other", "mine", "yours", "found"]
theorem sc_lots_parted : FnScope N_lots_parted ["one", "other"] (defScope s_lots_parted) := ⟨rfl, rfl, rfl, by decide +kernel, rfl, by decide +kernel, by decide +kernel⟩
def pfx_lots_parted : PFX := fun ds R X => ∃ d e : Dt, ds = [d, e] ∧ LotX d X fun l => LotX e X fun m => ∃ rs qs, l = lotT rs ∧ m = lotT qs ∧ RsOk rs ∧ RsOk qs ∧ rs ≠ [] ∧ qs ≠ [] ∧ R false (partLot rs qs)
theorem len_lots_parted : ∀ ds R X, pfx_lots_parted ds R X → ds.length = 2 := by
  intro ds R X h
  (repeat (first | (obtain ⟨e, _⟩ := h; exact congrArg List.length e) | (obtain ⟨_, h⟩ := h)))
theorem ok_lots_parted {P : Program} {w : World} {K : PySem.W.Frag} {mg : Str → Option Value} {base : Heap} (T : Txt K mg) : Has P w K mg base (L2.CX P w) 4 "lots_parted" ["one", "other"] (spX mg pfx_lots_parted) := by
  obtain ⟨f, fd, g, F⟩ := T.f_lots_parted
  obtain ⟨f_ends_in, fd_ends_in, g_ends_in, kp_ends_in, b_ends_in, G_ends_in⟩ := (ok_ends_in (P := P) (w := w) (K := K) (mg := mg) (base := base) T).ex
  obtain ⟨f_first_unlike, fd_first_unlike, g_first_unlike, kp_first_unlike, b_first_unlike, G_first_unlike⟩ := (ok_first_unlike (P := P) (w := w) (K := K) (mg := mg) (base := base) T).ex
  obtain ⟨f_need_lot, fd_need_lot, g_need_lot, kp_need_lot, b_need_lot, G_need_lot⟩ := (ok_need_lot (P := P) (w := w) (K := K) (mg := mg) (base := base) T).ex
  obtain ⟨f_pairs_of, fd_pairs_of, g_pairs_of, kp_pairs_of, b_pairs_of, G_pairs_of⟩ := (ok_pairs_of (P := P) (w := w) (K := K) (mg := mg) (base := base) T).ex
  refine ⟨f, fd, g, F.kp, F.bindsN (fun _ _ _ _ _ _ us hl => match us, hl with | [_, _], _ => rfl), F.ok sc_lots_parted (spX_len len_lots_parted) (fun cdv A outer s H vs Q E hr h => ?_)⟩
  have hu64 : (A.deeper (envOfC "lots_parted" (defScope s_lots_parted) s.heap.objs.size f cdv)).units + 64 < cLine := hr.units
  have hu : (A.deeper (envOfC "lots_parted" (defScope s_lots_parted) s.heap.objs.size f cdv)).units + 1 < cLine := by omega
  have tk : Takes (cxOf (L2.CX P w) P w K mg base N_lots_parted "lots_parted" (defScope s_lots_parted) f cdv A outer s H E) (fun cls d _ H => E cls d H) := takes_of rfl rfl rfl rfl
  have px : Passes (L2.CX P w) (cxOf (L2.CX P w) P w K mg base N_lots_parted "lots_parted" (defScope s_lots_parted) f cdv A outer s H E) E := passes_call tk (fun _ _ _ _ h => h)
  obtain ⟨A0, Zd0, ds, R, X, hf, hi, hp0, k, lx⟩ := h
  refine ⟨_, (pss_cons (ps_expr (pe_call G_need_lot (hr.mono (by decide)) rfl g_need_lot kp_need_lot b_need_lot .nil px (pa_cons (pv 0) pa_nil)))
      (pss_cons (ps_expr (pe_call G_need_lot (hr.mono (by decide)) rfl g_need_lot kp_need_lot b_need_lot .nil px (pa_cons (pv 1) pa_nil)))
      (pss_cons (ps_par (i := 2) (j := 3) (by rfl) sc_lots_parted.nd rfl rfl (by decide) rfl rfl (pa_cons (pe_call G_ends_in (hr.mono (by decide)) rfl g_ends_in kp_ends_in b_ends_in .nil pass0 (pa_cons (pv 0) pa_nil)) (pa_cons (pe_call G_ends_in (hr.mono (by decide)) rfl g_ends_in kp_ends_in b_ends_in .nil pass0 (pa_cons (pv 1) pa_nil)) pa_nil)) (by rfl))
      (pss_cons (ps_if (pt_cmpR (op_neK (K := K) rfl hu64) (pv 2) (pv 3) (nomark _)) (pss_one (ps_ret (pe_tupX (pa_cons (pe_strL (l := [101, 110, 100, 115]) (by decide +kernel)) (pa_cons (pv 2) (pa_cons (pv 3) pa_nil)))))) pss_nil)
      (pss_cons (ps_set (i := 4) sc_lots_parted.nd rfl (Or.inl rfl) (pe_call G_first_unlike (hr.mono (by decide)) rfl g_first_unlike kp_first_unlike b_first_unlike .nil pass0 (pa_cons (pe_call G_pairs_of (hr.mono (by decide)) rfl g_pairs_of kp_pairs_of b_pairs_of .nil pass0 (pa_cons (pv 0) pa_nil)) (pa_cons (pe_call G_pairs_of (hr.mono (by decide)) rfl g_pairs_of kp_pairs_of b_pairs_of .nil pass0 (pa_cons (pv 1) pa_nil)) pa_nil))))
      (pss_one (ps_ret (pe_cut (pe_ifExp (pt_cmpR op_isN1 (pv 4) pe_non (nomark _)) pe_non (pe_op op_addZ (pe_tupX (pa_cons (pe_strL (l := [112, 97, 105, 114]) (by decide +kernel)) pa_nil)) (pv 4))))))))))), ?_⟩
  refine z_run (n := 3) hf hi ?_ k (cs_seq (cs_drop (ce_callX lx (ca_cons (ce_var 0) ca_nil) pq_need_lot))
      (cs_seq (cs_drop (ce_callX lx (ca_cons (ce_var 1) ca_nil) pq_need_lot))
      (cs_seq (cs_par (ce_call (ca_cons (ce_var 0) ca_nil) pu_ends_in) (ce_call (ca_cons (ce_var 1) ca_nil) pu_ends_in))
      (cs_seq (cs_if (ct_test (ce_op (co_s 2) (co_s 3) z_ne)) (cs_ret (ce_tup (ca_cons ce_str (ca_cons (ce_var 2) (ca_cons (ce_var 3) ca_nil))))) cs_next)
      (cs_seq (cs_set (i := 4) (ce_call (ca_cons (ce_call (ca_cons (ce_var 0) ca_nil) pu_pairs_of) (ca_cons (ce_call (ca_cons (ce_var 1) ca_nil) pu_pairs_of) ca_nil)) pu_first_unlike))
      (cs_ret (ce_cut0 (ce_if (ct_test (ce_op (co_s 4) (co_e ce_non) z_isN)) ce_non (ce_op (co_e (ce_tup (ca_cons ce_str ca_nil))) (co_s 4) z_add))))))))) ?_
  · rw [len_lots_parted ds R X hp0]; rfl
  clear hf hi k lx px tk
  clear hr hu64 hu G_ends_in b_ends_in kp_ends_in g_ends_in G_first_unlike b_first_unlike kp_first_unlike g_first_unlike G_need_lot b_need_lot kp_need_lot g_need_lot G_pairs_of b_pairs_of kp_pairs_of g_pairs_of
  obtain ⟨d, e, rfl, ha, hx, k⟩ := hp0
  walk_at "z"
  refine ⟨d, rfl, ha, hx, fun l el h => ?_⟩
  subst el
  obtain ⟨hb, hy, k⟩ := k l rfl h
  walk_at "z"
  refine ⟨e, rfl, hb, hy, fun m em h' => ?_⟩
  subst em
  obtain ⟨rs, qs, rfl, rfl, h1, g1, h2, g2, k⟩ := k m rfl h'
  have hl := h.len
  have gl := h'.len
  walk_at "z"
  refine ⟨rs, rfl, h1, h2, by omega, ?_⟩
  walk_at "z"
  refine ⟨qs, rfl, g1, g2, by omega, ?_⟩
  walk_at "z"
  walk_at "nes"
  unfold partLot at k
  by_cases he : endsLot rs = endsLot qs
  · rw [if_pos he] at k
    rw [if_neg (by simp [he])]
    walk_at "z"
    refine ⟨lotT rs, rfl, by omega, ?_⟩
    walk_at "z"
    refine ⟨lotT qs, rfl, by omega, ?_⟩
    walk_at "z"
    refine ⟨_, _, _, _, rfl, pairs_pos _, pairs_pos _, by rw [adj_len]; omega, by rw [adj_len]; omega, ?_⟩
    unfold fapD at k ⊢
    cases hf : fapM (adjM (lotT rs)) (adjM (lotT qs)) with
    | none =>
      rw [hf] at k
      walk_at "z"
      exact k
    | some t =>
      rw [hf] at k
      walk_at "zz"
      exact k
  · rw [if_neg he] at k
    rw [if_pos (by simpa using he)]
    walk_at "z"
    exact k
theorem pq_lots_parted {mg : Str → Option Value} : PureOfX mg (spX mg pfx_lots_parted) pfx_lots_parted := pure_spX
abbrev N__law_why : List Str := ["_law_row_here", "_law_turn", "_law_place"]
theorem sc__law_why : FnScope N__law_why ["_law_row_here", "_law_turn"] (defScope s__law_why) := ⟨rfl, rfl, rfl, by decide +kernel, rfl, by decide +kernel, by decide +kernel⟩
def pf__law_why : PF := fun ds R => ∃ (row : List Nat) (e f : Dt), ds = [.str row, .tup [e, f]] ∧ row.length ≤ 1000 ∧ argOk e ∧ argOk f ∧ R false (.str (whyD row [] (.tup [e, f])))
theorem len__law_why : ∀ ds R, pf__law_why ds R → ds.length = 2 := by
  intro ds R h
  (repeat (first | (obtain ⟨e, _⟩ := h; exact congrArg List.length e) | (obtain ⟨_, h⟩ := h)))
theorem ok__law_why {P : Program} {w : World} {K : PySem.W.Frag} {mg : Str → Option Value} {base : Heap} (T : Txt K mg) : Has P w K mg base CX0 1 "_law_why" ["_law_row_here", "_law_turn"] (spZ pf__law_why) := by
  obtain ⟨f, fd, g, F⟩ := T.f__law_why
  refine ⟨f, fd, g, F.kp, F.bindsN (fun _ _ _ _ _ _ us hl => match us, hl with | [_, _], _ => rfl), F.ok sc__law_why (fun vs H Q E h => spZ_len (len__law_why) (K := K) vs H Q E h) (fun cdv A outer s H vs Q E hr h => ?_)⟩
  have hu64 : (A.deeper (envOfC "_law_why" (defScope s__law_why) s.heap.objs.size f cdv)).units + 64 < cLine := hr.units
  have hu : (A.deeper (envOfC "_law_why" (defScope s__law_why) s.heap.objs.size f cdv)).units + 1 < cLine := by omega
  obtain ⟨A0, Zd0, ds, R, hf, hi, hp0, k⟩ := h
  refine ⟨_, PSs.nox ((pss_cons (ps_for PassesOwn.never rfl (pi_anyK (K := K) rfl (pv 1)) (pg_name (i := 2) sc__law_why.nd rfl (Or.inl rfl)) (pss_one (ps_if (pt_cut (PW.pt (pw_or (pt_not (pt_val (pe_callB call_isU (by rfl) T.z_isinstance (by decide +kernel) (pa_cons (pv 2) (pa_cons (pe_bltn (v := .ty "int") rfl T.z_int (by decide +kernel) rfl) pa_nil))))) (pw_or (pt_val (pe_callB call_isU (by rfl) T.z_isinstance (by decide +kernel) (pa_cons (pv 2) (pa_cons (pe_bltn (v := .ty "bool") rfl T.z_bool (by decide +kernel) rfl) pa_nil)))) (pw_or1 (pt_not (pt_chain op_leU op_ltU pe_int (pv 2) (pe_callB (call_lenK (K := K) rfl) (by rfl) T.z_len PySem.boot_len (pa_cons (pv 0) pa_nil))))))))) (pss_one (ps_ret (pe_strL (l := [112, 108, 97, 99, 101]) (by decide +kernel)))) pss_nil)))
      (pss_cons (ps_if (pt_cmpR op_geU (pe_ix (ix_K (K := K) rfl) (pv 1) pe_int (fun _ _ => rfl)) (pe_ix (ix_K (K := K) rfl) (pv 1) pe_int (fun _ _ => rfl)) (nomark _)) (pss_one (ps_ret (pe_strL (l := [112, 108, 97, 99, 101]) (by decide +kernel)))) pss_nil)
      (pss_one (ps_ret (pe_cut (pe_ifExp (pt_cmpR (op_eqK (K := K) rfl hu64) (pe_ix (ix_K (K := K) rfl) (pv 0) (pe_ix (ix_K (K := K) rfl) (pv 1) pe_int (fun _ _ => rfl)) (fun _ _ => rfl)) (pe_ix (ix_K (K := K) rfl) (pv 0) (pe_ix (ix_K (K := K) rfl) (pv 1) pe_int (fun _ _ => rfl)) (fun _ _ => rfl)) (nomark _)) (pe_strL (l := []) (by decide +kernel)) (pe_strL (l := [117, 110, 108, 105, 107, 101]) (by decide +kernel))))))))), ?_⟩
  refine z_run (n := 1) hf hi ?_ k (cs_seq (cs_for (vs := [2]) (ci_any (ce_var 1)) (cg_name (by decide)) (cs_if (ct_cut0 (ct_or (ct_not (ct_B (ce_is (co_s 2) (by decide)))) (ct_or (ct_B (ce_is (co_s 2) (by decide))) (ct_not (ct_test (ce_chain (co_e ce_int) (co_s 2) (co_e (ce_cb1 (co_s 0) z_len)) z_le z_lt)))))) (cs_ret ce_str) cs_next))
      (cs_seq (cs_if (ct_test (ce_op (co_e (ce_op (co_s 1) (co_e ce_int) z_ix)) (co_e (ce_op (co_s 1) (co_e ce_int) z_ix)) z_ge)) (cs_ret ce_str) cs_next)
      (cs_ret (ce_cut0 (ce_if (ct_test (ce_op (co_e (ce_op (co_s 0) (co_e (ce_op (co_s 1) (co_e ce_int) z_ix)) z_ix)) (co_e (ce_op (co_s 0) (co_e (ce_op (co_s 1) (co_e ce_int) z_ix)) z_ix)) z_eq)) ce_str ce_str))))) ?_
  · rw [len__law_why ds R hp0]; rfl
  clear hf hi k
  clear hr hu64 hu
  obtain ⟨row, e, f, rfl, hl, ae, af, k⟩ := hp0
  walk_at "z"
  walk_at "for"
  have bad : ∀ d ∈ [e, f], numB d 0 ((row.length : Int) - 1) ≠ true → whyD row [] (.tup [e, f]) = [112, 108, 97, 99, 101] := by
    intro d hd hn
    show (match some [e, f] with | some [.int h, .int t] => whyM row [] h t | _ => [112, 108, 97, 99, 101]) = _
    split
    · rename_i h t e9
      cases e9
      unfold whyM
      rw [if_neg]
      intro q
      simp only [List.mem_cons, List.not_mem_nil, or_false] at hd
      rcases hd with rfl | rfl
      · exact hn (decide_eq_true ⟨by omega, by omega⟩)
      · exact hn (decide_eq_true ⟨by omega, by omega⟩)
    · rfl
  refine for_l [e, f] (fun d => d) (fun i s => ∃ x, s = [.fz (.str row), .fz (.tup [e, f]), x] ∧ ∀ d ∈ [e, f].take i, numB d 0 ((row.length : Int) - 1) = true) (by simp) ⟨_, rfl, fun d hd => nomatch hd⟩ ?_ ?_
  · rintro i d s hd ⟨x, rfl, hall⟩
    have hdm := List.mem_of_getElem? hd
    have ad : argOk d := by
      simp only [List.mem_cons, List.not_mem_nil, or_false] at hdm
      rcases hdm with rfl | rfl
      · exact ae
      · exact af
    by_cases hn : numB d 0 ((row.length : Int) - 1) = true
    · have hmore : ∀ d' ∈ [e, f].take (i + 1), numB d' 0 ((row.length : Int) - 1) = true := fun d' hd' => by
        rw [List.take_add_one, hd] at hd'
        rcases List.mem_append.mp hd' with hd' | hd'
        · exact hall d' hd'
        · have : d' = d := by simpa using hd'
          rw [this]; exact hn
      obtain ⟨j, rfl, hj⟩ := numB_nat hn
      walk_at "z"
      rw [decide_eq_true (show (0 : Int) ≤ (j : Int) by omega)]
      walk_at "zz"
      rw [decide_eq_true (show (j : Int) < (row.length : Int) by omega)]
      walk_at "z"
      exact ⟨_, rfl, hmore⟩
    · have hw := bad d hdm hn
      rw [hw] at k
      cases d with
      | int j =>
        walk_at "z"
        by_cases h0 : 0 ≤ j
        · rw [decide_eq_true h0]
          walk_at "zz"
          rw [decide_eq_false (show ¬ j < (row.length : Int) from fun z => hn (decide_eq_true ⟨h0, by omega⟩))]
          walk_at "z"
          exact k
        · rw [decide_eq_false h0]
          walk_at "z"
          exact k
      | val v => exact ad.elim
      | dice => exact ad.elim
      | ob n l => exact ad.elim
      | dic a b => exact ad.elim
      | _ =>
        walk_at "z"
        exact k
  · rintro s ⟨x, rfl, hall⟩
    obtain ⟨i, rfl, hi⟩ := numB_nat (hall e (by simp))
    obtain ⟨j, rfl, hj⟩ := numB_nat (hall f (by simp))
    clear bad hall ae af
    have k : R false (.str (whyM row [] (i : Int) (j : Int))) := k
    walk_at "z"
    by_cases hc : (j : Int) ≤ (i : Int)
    · rw [if_pos (decide_eq_true hc)]
      unfold whyM at k
      rw [if_neg (by omega)] at k
      walk_at "z"
      exact k
    · rw [if_neg (by rw [decide_eq_false hc]; decide)]
      unfold whyM at k
      rw [if_pos ⟨by omega, by omega, by omega⟩] at k
      walk_at "z"
      refine zIx_s (k := i) (by omega) (by omega) (.inl rfl) fun a ha => ?_
      walk_at "z"
      refine zIx_s (k := j) (by omega) (by omega) (.inl rfl) fun b hb => ?_
      have ea : row.getD i 0 = a := by rw [List.getD_eq_getElem?_getD, ha]; rfl
      have eb : row.getD j 0 = b := by rw [List.getD_eq_getElem?_getD, hb]; rfl
      rw [Int.toNat_natCast, Int.toNat_natCast, ea, eb] at k
      walk_at "z"
      by_cases hab : a = b
      · rw [if_neg (fun z => z hab), if_neg (by simp)] at k
        rw [if_pos (decide_eq_true hab)]
        walk_at "z"
        exact k
      · rw [if_pos hab] at k
        rw [if_neg (by rw [decide_eq_false hab]; decide)]
        walk_at "z"
        exact k
theorem pu__law_why {E : XK} : PureOf (spZ pf__law_why) pf__law_why E := pure_spZ
end
noncomputable instance (priority := 10) ziO : ZI := ziF
def lam_0 : LamT := lamOf (exAt (stE (stB ((defBody s_law).getD 1 (.Pass ⟨0, 0, 0, 0⟩)) false 14)) 1) [] ["_law_lot_here", "_law_odd"]
abbrev ptp_0 : XQ → PTE := fun X => (pCallX pfx_lot_turned (pCons (pVar 0) (pCons (pOp zIx (.s 1) (.e (pC (.int 0)))) (pCons (pOp zIx (.s 1) (.e (pC (.int 1)))) pNil))) X)
theorem sc_lam_0 : NdefX.NScope (lam_0.ps ++ lam_0.fr) lam_0.ps lam_0.fr lam_0.scope := NdefX.nscope_by (by decide +kernel)
theorem okl_0 {P : Program} {w : World} {K : PySem.W.Frag} {mg : Str → Option Value} {B : Heap} (T : Txt K mg) (q : Str) (cl : List (Str × Addr)) (A : Around) (outer : List Env) (s : Shared) (H : Hp) (f c : Addr) (E : XK) (hr : Room 4 (A.deeper (NdefX.envF (nfL lam_0 q cl c) f s.heap.objs.size))) :
    ∃ t, PE (NdefX.ncx (L2.CX P w) P w K mg B (lam_0.ps ++ lam_0.fr) (nfL lam_0 q cl c) f A outer s H E) lam_0.body t ∧ ∀ (A0 Zd : Addr → Prop) (X : XQ), LX (baseCtx A0 Zd H) mg X E → CE (baseCtx A0 Zd H) t (ptp_0 X) := by
  obtain ⟨f_lot_turned, fd_lot_turned, g_lot_turned, kp_lot_turned, b_lot_turned, G_lot_turned⟩ := (ok_lot_turned (P := P) (w := w) (K := K) (mg := mg) (base := B) T).ex
  have tk : Takes (NdefX.ncx (L2.CX P w) P w K mg B (lam_0.ps ++ lam_0.fr) (nfL lam_0 q cl c) f A outer s H E) (fun cls d _ H => E cls d H) := takes_of rfl rfl rfl rfl
  have px : Passes (L2.CX P w) (NdefX.ncx (L2.CX P w) P w K mg B (lam_0.ps ++ lam_0.fr) (nfL lam_0 q cl c) f A outer s H E) E := passes_call tk (fun _ _ _ _ h => h)
  exact ⟨_, (pe_call G_lot_turned (hr.mono (by decide)) rfl g_lot_turned kp_lot_turned b_lot_turned .nil px (pa_cons (pv 0) (pa_cons (pe_ix (ix_K (K := K) rfl) (pv 1) pe_int (fun _ _ => rfl)) (pa_cons (pe_ix (ix_K (K := K) rfl) (pv 1) pe_int (fun _ _ => rfl)) pa_nil)))), fun A0 Zd X lx => (ce_callX lx (ca_cons (ce_var 0) (ca_cons (ce_op (co_s 1) (co_e ce_int) z_ix) (ca_cons (ce_op (co_s 1) (co_e ce_int) z_ix) ca_nil))) pq_lot_turned)⟩
def lamF : Nat → LamT
  | 0 => lam_0
  | _ => lamNo
def capsF : Nat → List Nat
  | 0 => [3, 12]
  | _ => []
def pfo : Nat → PFX
  | 0 => pfL [] ptp_0
  | _ => pfNo
theorem LOs [HasLam] {P : Program} {w : World} {K : PySem.W.Frag} {mg : Str → Option Value} (T : Txt K mg) (hL : lamP.lam = lamF) (hcl : CellsIn lamP) : ∀ n, LamOk P w K mg 5 n (pfo n) := by
  intro n
  match n with
  | 0 => exact lamOk_of (L := lam_0) (by rw [hL]; rfl) hcl sc_lam_0 (.inl ⟨rfl, fun _ _ _ _ _ _ => rfl⟩) (fun A outer s H f c E hr => okl_0 T _ _ A outer s H f c E hr)
  | _ + 1 => exact lamOk_no
/-- the word of a refusal -/
inductive WordX : Xd → Dt → Prop
  | pins : WordX ⟨"BadPins", []⟩ (.tup [.str [112, 105, 110, 115], .int 0])
  | norow : WordX ⟨"NoRow", []⟩ (.tup [.str [110, 111, 114, 111, 119], .int 0])
  | unlike : WordX ⟨"Unlike", []⟩ (.tup [.str [117, 110, 108, 105, 107, 101], .int 0])
  | long : WordX ⟨"TooLong", []⟩ (.tup [.str [108, 111, 110, 103], .int 0])
  | number : WordX ⟨"BadNumber", []⟩ (.tup [.str [110, 117, 109, 98, 101, 114], .int 0])
  | prices : WordX ⟨"BadPrices", []⟩ (.tup [.str [112, 114, 105, 99, 101, 115], .int 0])
  | side : WordX ⟨"BadSide", []⟩ (.tup [.str [115, 105, 100, 101], .int 0])
  | piece : WordX ⟨"NoPiece", []⟩ (.tup [.str [112, 105, 101, 99, 101], .int 0])
  | name : WordX ⟨"BadName", []⟩ (.tup [.str [110, 97, 109, 101], .int 0])
  | point : WordX ⟨"NoPoint", []⟩ (.tup [.str [112, 111, 105, 110, 116], .int 0])
  | clash : WordX ⟨"Clash", []⟩ (.tup [.str [99, 108, 97, 115, 104], .int 0])
  | row (p : Int) : WordX ⟨"BadRow", [("place", .int p)]⟩ (.tup [.str [114, 111, 119], .int p])
  | counts (p : Int) : WordX ⟨"BadCounts", [("place", .int p)]⟩ (.tup [.str [99, 111, 117, 110, 116, 115], .int p])
  | lot (p : Int) : WordX ⟨"BadLot", [("place", .int p)]⟩ (.tup [.str [108, 111, 116], .int p])
  | turn (n : Int) (l : List Nat) : WordX ⟨"BadTurn", [("why", Tx l), ("number", .int n)]⟩ (.tup [.str [116, 117, 114, 110], .tup [.int n, .str l]])
  | deed (p : Int) : WordX ⟨"BadDeed", [("number", .int p)]⟩ (.tup [.str [100, 101, 101, 100], .int p])
  | text (p : Int) : WordX ⟨"BadText", [("row", .int p)]⟩ (.tup [.str [116, 101, 120, 116], .int p])
theorem w_turn (n : Int) (l : List Nat) : WordX ⟨"BadTurn", [("why", Tx l), ("number", .int n)]⟩ (.tup [.str [116, 117, 114, 110], .tup [.int n, .str l]]) := .turn n l
abbrev N__law_word_of : List Str := ["_law_work", "e", "_law_kinds", "_law_names", "_law_name"]
theorem sc__law_word_of : FnScope N__law_word_of ["_law_work"] (defScope s__law_word_of) := ⟨rfl, rfl, rfl, by decide +kernel, rfl, by decide +kernel, by decide +kernel⟩
def pf__law_word_of : PF := fun ds R => ∃ (n : Nat) (cs : List Dt) (N0 : Prop) (X0 : XQ), ds = [.ob (2 * n + 1) cs] ∧ Out (pfo n) cs N0 X0 ∧ (N0 → R false .non) ∧ ∀ x, X0 x → ∃ w, WordX x w ∧ R false w
theorem len__law_word_of : ∀ ds R, pf__law_word_of ds R → ds.length = 1 := by
  intro ds R h
  (repeat (first | (obtain ⟨e, _⟩ := h; exact congrArg List.length e) | (obtain ⟨_, h⟩ := h)))
theorem okF__law_word_of [HasLam] {P : Program} {w : World} {K : PySem.W.Frag} {mg : Str → Option Value} {base : Heap} (hB : base = lamP.B) (hL : lamP.lam = lamF) (hcl : CellsIn lamP) (T : Txt K mg) {f : Addr} {fd : FuncData} (F : FunD K "_law_word_of" "_law_word_of" (defArgs s__law_word_of) (defBody s__law_word_of) (defScope s__law_word_of) [] [] f fd) : FnOk P w K mg base CX0 6 f fd ["_law_work"] (spZ pf__law_word_of) := by
  have LO := LOs (P := P) (w := w) T hL hcl
  obtain ⟨CT, gC_TurnError, ET⟩ := T.k_exc
  obtain ⟨C_BadPins, gC_BadPins⟩ := T.g_BadPins
  obtain ⟨C_NoRow, gC_NoRow⟩ := T.g_NoRow
  obtain ⟨C_Unlike, gC_Unlike⟩ := T.g_Unlike
  obtain ⟨C_TooLong, gC_TooLong⟩ := T.g_TooLong
  obtain ⟨C_BadNumber, gC_BadNumber⟩ := T.g_BadNumber
  obtain ⟨C_BadPrices, gC_BadPrices⟩ := T.g_BadPrices
  obtain ⟨C_BadSide, gC_BadSide⟩ := T.g_BadSide
  obtain ⟨C_NoPiece, gC_NoPiece⟩ := T.g_NoPiece
  obtain ⟨C_BadName, gC_BadName⟩ := T.g_BadName
  obtain ⟨C_NoPoint, gC_NoPoint⟩ := T.g_NoPoint
  obtain ⟨C_Clash, gC_Clash⟩ := T.g_Clash
  obtain ⟨C_BadRow, gC_BadRow⟩ := T.g_BadRow
  obtain ⟨C_BadCounts, gC_BadCounts⟩ := T.g_BadCounts
  obtain ⟨C_BadLot, gC_BadLot⟩ := T.g_BadLot
  obtain ⟨C_BadTurn, gC_BadTurn⟩ := T.g_BadTurn
  obtain ⟨C_BadDeed, gC_BadDeed⟩ := T.g_BadDeed
  obtain ⟨C_BadText, gC_BadText⟩ := T.g_BadText
  refine F.ok sc__law_word_of (fun vs H Q E h => spZ_len len__law_word_of (K := K) vs H Q E h) (fun cdv A outer s H vs Q E hr h => ?_)
  have hu64 : (A.deeper (envOfC "_law_word_of" (defScope s__law_word_of) s.heap.objs.size f cdv)).units + 64 < cLine := hr.units
  have hu : (A.deeper (envOfC "_law_word_of" (defScope s__law_word_of) s.heap.objs.size f cdv)).units + 1 < cLine := by omega
  obtain ⟨A0, Zd0, ds, R, hf, hi, hp0, k⟩ := h
  refine ⟨_, PSs.nox ((pss_cons (ps_tryClo (i := 1) (j := 0) rfl rfl sc__law_word_of.nd rfl rfl ⟨rfl, by decide, .inl gC_TurnError⟩ hB LO (hr.mono (by decide)) rfl (.inl rfl) (by decide) (by decide) (fun a oe D0 d pn hz hf cE cX no => (pss_cons (ps_set (i := 2) sc__law_word_of.nd rfl (Or.inl rfl) (pe_lstX (pa_cons (pe_callB (call_isD cE hz hf) (by rfl) T.z_isinstance (by decide +kernel) (pa_cons (pv 1) (pa_cons (pe_glob (v := .ref C_BadPins) (by rfl) gC_BadPins rfl) pa_nil))) (pa_cons (pe_callB (call_isD cE hz hf) (by rfl) T.z_isinstance (by decide +kernel) (pa_cons (pv 1) (pa_cons (pe_glob (v := .ref C_NoRow) (by rfl) gC_NoRow rfl) pa_nil))) (pa_cons (pe_callB (call_isD cE hz hf) (by rfl) T.z_isinstance (by decide +kernel) (pa_cons (pv 1) (pa_cons (pe_glob (v := .ref C_Unlike) (by rfl) gC_Unlike rfl) pa_nil))) (pa_cons (pe_callB (call_isD cE hz hf) (by rfl) T.z_isinstance (by decide +kernel) (pa_cons (pv 1) (pa_cons (pe_glob (v := .ref C_TooLong) (by rfl) gC_TooLong rfl) pa_nil))) pa_nil))))))
      (pss_cons (ps_set (i := 2) sc__law_word_of.nd rfl (Or.inl rfl) (pe_op op_addZ (pv 2) (pe_lstX (pa_cons (pe_callB (call_isD cE hz hf) (by rfl) T.z_isinstance (by decide +kernel) (pa_cons (pv 1) (pa_cons (pe_glob (v := .ref C_BadNumber) (by rfl) gC_BadNumber rfl) pa_nil))) (pa_cons (pe_callB (call_isD cE hz hf) (by rfl) T.z_isinstance (by decide +kernel) (pa_cons (pv 1) (pa_cons (pe_glob (v := .ref C_BadPrices) (by rfl) gC_BadPrices rfl) pa_nil))) (pa_cons (pe_callB (call_isD cE hz hf) (by rfl) T.z_isinstance (by decide +kernel) (pa_cons (pv 1) (pa_cons (pe_glob (v := .ref C_BadSide) (by rfl) gC_BadSide rfl) pa_nil))) pa_nil))))))
      (pss_cons (ps_set (i := 2) sc__law_word_of.nd rfl (Or.inl rfl) (pe_op op_addZ (pv 2) (pe_lstX (pa_cons (pe_callB (call_isD cE hz hf) (by rfl) T.z_isinstance (by decide +kernel) (pa_cons (pv 1) (pa_cons (pe_glob (v := .ref C_NoPiece) (by rfl) gC_NoPiece rfl) pa_nil))) (pa_cons (pe_callB (call_isD cE hz hf) (by rfl) T.z_isinstance (by decide +kernel) (pa_cons (pv 1) (pa_cons (pe_glob (v := .ref C_BadName) (by rfl) gC_BadName rfl) pa_nil))) (pa_cons (pe_callB (call_isD cE hz hf) (by rfl) T.z_isinstance (by decide +kernel) (pa_cons (pv 1) (pa_cons (pe_glob (v := .ref C_NoPoint) (by rfl) gC_NoPoint rfl) pa_nil))) (pa_cons (pe_callB (call_isD cE hz hf) (by rfl) T.z_isinstance (by decide +kernel) (pa_cons (pv 1) (pa_cons (pe_glob (v := .ref C_Clash) (by rfl) gC_Clash rfl) pa_nil))) pa_nil)))))))
      (pss_cons (ps_set (i := 2) sc__law_word_of.nd rfl (Or.inl rfl) (pe_op op_addZ (pv 2) (pe_lstX (pa_cons (pe_callB (call_isD cE hz hf) (by rfl) T.z_isinstance (by decide +kernel) (pa_cons (pv 1) (pa_cons (pe_glob (v := .ref C_BadRow) (by rfl) gC_BadRow rfl) pa_nil))) (pa_cons (pe_callB (call_isD cE hz hf) (by rfl) T.z_isinstance (by decide +kernel) (pa_cons (pv 1) (pa_cons (pe_glob (v := .ref C_BadCounts) (by rfl) gC_BadCounts rfl) pa_nil))) (pa_cons (pe_callB (call_isD cE hz hf) (by rfl) T.z_isinstance (by decide +kernel) (pa_cons (pv 1) (pa_cons (pe_glob (v := .ref C_BadLot) (by rfl) gC_BadLot rfl) pa_nil))) pa_nil))))))
      (pss_cons (ps_set (i := 2) sc__law_word_of.nd rfl (Or.inl rfl) (pe_op op_addZ (pv 2) (pe_lstX (pa_cons (pe_callB (call_isD cE hz hf) (by rfl) T.z_isinstance (by decide +kernel) (pa_cons (pv 1) (pa_cons (pe_glob (v := .ref C_BadTurn) (by rfl) gC_BadTurn rfl) pa_nil))) (pa_cons (pe_callB (call_isD cE hz hf) (by rfl) T.z_isinstance (by decide +kernel) (pa_cons (pv 1) (pa_cons (pe_glob (v := .ref C_BadDeed) (by rfl) gC_BadDeed rfl) pa_nil))) (pa_cons (pe_callB (call_isD cE hz hf) (by rfl) T.z_isinstance (by decide +kernel) (pa_cons (pv 1) (pa_cons (pe_glob (v := .ref C_BadText) (by rfl) gC_BadText rfl) pa_nil))) pa_nil))))))
      (pss_cons (ps_if (pt_cut (PW.pt (pw_or (pt_cmpR (op_neK (K := K) rfl hu64) (pe_bmK (K := K) rfl PySem.F.plainAttrs_list PySem.F.slot_list_count PySem.F.type_list_count (mt_cntBK (K := K) rfl) (pv 2) (pa_cons pe_bl pa_nil)) pe_int (nomark _)) (pw_or1 (pt_not (pt_val (pe_callB (call_isD cE hz hf) (by rfl) T.z_isinstance (by decide +kernel) (pa_cons (pv 1) (pa_cons (pe_bltn (v := .ty "ValueError") (by rfl) T.z_ValueError PyProof.Rows.Boot.«ValueError» (by rfl)) pa_nil))))))))) (pss_one (ps_ret (pe_tupX (pa_cons (pe_strL (l := [111, 116, 104, 101, 114]) (by decide +kernel)) (pa_cons pe_int pa_nil))))) pss_nil)
      (pss_cons (ps_set (i := 3) sc__law_word_of.nd rfl (Or.inl rfl) (pe_lstX (pa_cons (pe_strL (l := [112, 105, 110, 115]) (by decide +kernel)) (pa_cons (pe_strL (l := [110, 111, 114, 111, 119]) (by decide +kernel)) (pa_cons (pe_strL (l := [117, 110, 108, 105, 107, 101]) (by decide +kernel)) (pa_cons (pe_strL (l := [108, 111, 110, 103]) (by decide +kernel)) (pa_cons (pe_strL (l := [110, 117, 109, 98, 101, 114]) (by decide +kernel)) (pa_cons (pe_strL (l := [112, 114, 105, 99, 101, 115]) (by decide +kernel)) (pa_cons (pe_strL (l := [115, 105, 100, 101]) (by decide +kernel)) (pa_cons (pe_strL (l := [112, 105, 101, 99, 101]) (by decide +kernel)) (pa_cons (pe_strL (l := [110, 97, 109, 101]) (by decide +kernel)) (pa_cons (pe_strL (l := [112, 111, 105, 110, 116]) (by decide +kernel)) (pa_cons (pe_strL (l := [99, 108, 97, 115, 104]) (by decide +kernel)) pa_nil)))))))))))))
      (pss_cons (ps_set (i := 4) sc__law_word_of.nd rfl (Or.inl rfl) (pe_ix (ix_K (K := K) rfl) (pe_op op_addZ (pv 3) (pe_lstX (pa_cons (pe_strL (l := [114, 111, 119]) (by decide +kernel)) (pa_cons (pe_strL (l := [99, 111, 117, 110, 116, 115]) (by decide +kernel)) (pa_cons (pe_strL (l := [108, 111, 116]) (by decide +kernel)) (pa_cons (pe_strL (l := [116, 117, 114, 110]) (by decide +kernel)) (pa_cons (pe_strL (l := [100, 101, 101, 100]) (by decide +kernel)) (pa_cons (pe_strL (l := [116, 101, 120, 116]) (by decide +kernel)) pa_nil)))))))) (pe_bmK (K := K) rfl PySem.F.plainAttrs_list PySem.F.slot_list_index PySem.F.type_list_index (mt_indexK (K := K) rfl) (pv 2) (pa_cons pe_bl pa_nil)) (fun _ _ => rfl)))
      (pss_cons (ps_if (pt_cmpR (op_inK (K := K) rfl) (pv 4) (pe_tupX (pa_cons (pe_strL (l := [114, 111, 119]) (by decide +kernel)) (pa_cons (pe_strL (l := [99, 111, 117, 110, 116, 115]) (by decide +kernel)) (pa_cons (pe_strL (l := [108, 111, 116]) (by decide +kernel)) pa_nil)))) (by rfl)) (pss_one (ps_ret (pe_tupX (pa_cons (pv 4) (pa_cons (pe_xf cX (no "place" (by decide)) hz hf (pv 1)) pa_nil))))) pss_nil)
      (pss_cons (ps_if (pt_cmpR (op_eqK (K := K) rfl hu64) (pv 4) (pe_strL (l := [116, 117, 114, 110]) (by decide +kernel)) (nomark _)) (pss_one (ps_ret (pe_tupX (pa_cons (pv 4) (pa_cons (pe_tupX (pa_cons (pe_xf cX (no "number" (by decide)) hz hf (pv 1)) (pa_cons (pe_xf cX (no "why" (by decide)) hz hf (pv 1)) pa_nil))) pa_nil))))) pss_nil)
      (pss_cons (ps_if (pt_cmpR (op_eqK (K := K) rfl hu64) (pv 4) (pe_strL (l := [100, 101, 101, 100]) (by decide +kernel)) (nomark _)) (pss_one (ps_ret (pe_tupX (pa_cons (pv 4) (pa_cons (pe_xf cX (no "number" (by decide)) hz hf (pv 1)) pa_nil))))) pss_nil)
      (pss_one (ps_ret (pe_tupX (pa_cons (pv 4) (pa_cons (pe_cut (pe_ifExp (pt_cmpR (op_eqK (K := K) rfl hu64) (pv 4) (pe_strL (l := [116, 101, 120, 116]) (by decide +kernel)) (nomark _)) (pe_xf cX (no "row" (by decide)) hz hf (pv 1)) pe_int)) pa_nil))))))))))))))))))
      (pss_one (ps_ret pe_non)))), ?_⟩
  refine z_run (n := 4) hf hi ?_ k (cs_seq (cs_tryClo ET (fun x a D0 d c' hx eC hd => (cs_seq (cs_set (i := 2) (ce_lst (ca_cons (ce_isX hd rel_ref (ET.is x.cls hx "BadPins" (by decide) _ _ eC gC_BadPins)) (ca_cons (ce_isX hd rel_ref (ET.is x.cls hx "NoRow" (by decide) _ _ eC gC_NoRow)) (ca_cons (ce_isX hd rel_ref (ET.is x.cls hx "Unlike" (by decide) _ _ eC gC_Unlike)) (ca_cons (ce_isX hd rel_ref (ET.is x.cls hx "TooLong" (by decide) _ _ eC gC_TooLong)) ca_nil))))))
      (cs_seq (cs_set (i := 2) (ce_op (co_s 2) (co_e (ce_lst (ca_cons (ce_isX hd rel_ref (ET.is x.cls hx "BadNumber" (by decide) _ _ eC gC_BadNumber)) (ca_cons (ce_isX hd rel_ref (ET.is x.cls hx "BadPrices" (by decide) _ _ eC gC_BadPrices)) (ca_cons (ce_isX hd rel_ref (ET.is x.cls hx "BadSide" (by decide) _ _ eC gC_BadSide)) ca_nil))))) z_add))
      (cs_seq (cs_set (i := 2) (ce_op (co_s 2) (co_e (ce_lst (ca_cons (ce_isX hd rel_ref (ET.is x.cls hx "NoPiece" (by decide) _ _ eC gC_NoPiece)) (ca_cons (ce_isX hd rel_ref (ET.is x.cls hx "BadName" (by decide) _ _ eC gC_BadName)) (ca_cons (ce_isX hd rel_ref (ET.is x.cls hx "NoPoint" (by decide) _ _ eC gC_NoPoint)) (ca_cons (ce_isX hd rel_ref (ET.is x.cls hx "Clash" (by decide) _ _ eC gC_Clash)) ca_nil)))))) z_add))
      (cs_seq (cs_set (i := 2) (ce_op (co_s 2) (co_e (ce_lst (ca_cons (ce_isX hd rel_ref (ET.is x.cls hx "BadRow" (by decide) _ _ eC gC_BadRow)) (ca_cons (ce_isX hd rel_ref (ET.is x.cls hx "BadCounts" (by decide) _ _ eC gC_BadCounts)) (ca_cons (ce_isX hd rel_ref (ET.is x.cls hx "BadLot" (by decide) _ _ eC gC_BadLot)) ca_nil))))) z_add))
      (cs_seq (cs_set (i := 2) (ce_op (co_s 2) (co_e (ce_lst (ca_cons (ce_isX hd rel_ref (ET.is x.cls hx "BadTurn" (by decide) _ _ eC gC_BadTurn)) (ca_cons (ce_isX hd rel_ref (ET.is x.cls hx "BadDeed" (by decide) _ _ eC gC_BadDeed)) (ca_cons (ce_isX hd rel_ref (ET.is x.cls hx "BadText" (by decide) _ _ eC gC_BadText)) ca_nil))))) z_add))
      (cs_seq (cs_if (ct_cut0 (ct_or (ct_test (ce_op (co_e (ce_lst1 z_cntB (ce_var 2) (co_e ce_bl))) (co_e ce_int) z_ne)) (ct_not (ct_B (ce_isX hd rel_ty (ET.ve hx eC)))))) (cs_ret (ce_tup (ca_cons ce_str (ca_cons ce_int ca_nil)))) cs_next)
      (cs_seq (cs_set (i := 3) (ce_lst (ca_cons ce_str (ca_cons ce_str (ca_cons ce_str (ca_cons ce_str (ca_cons ce_str (ca_cons ce_str (ca_cons ce_str (ca_cons ce_str (ca_cons ce_str (ca_cons ce_str (ca_cons ce_str ca_nil)))))))))))))
      (cs_seq (cs_set (i := 4) (ce_op (co_e (ce_op (co_s 3) (co_e (ce_lst (ca_cons ce_str (ca_cons ce_str (ca_cons ce_str (ca_cons ce_str (ca_cons ce_str (ca_cons ce_str ca_nil)))))))) z_add)) (co_e (ce_lst1 z_idxB (ce_var 2) (co_e ce_bl))) z_ix))
      (cs_seq (cs_if (ct_test (ce_op (co_s 4) (co_e (ce_tup (ca_cons ce_str (ca_cons ce_str (ca_cons ce_str ca_nil))))) z_in)) (cs_ret (ce_tup (ca_cons (ce_var 4) (ca_cons (ce_xf hd) ca_nil)))) cs_next)
      (cs_seq (cs_if (ct_test (ce_op (co_s 4) (co_e ce_str) z_eq)) (cs_ret (ce_tup (ca_cons (ce_var 4) (ca_cons (ce_tup (ca_cons (ce_xf hd) (ca_cons (ce_xf hd) ca_nil))) ca_nil)))) cs_next)
      (cs_seq (cs_if (ct_test (ce_op (co_s 4) (co_e ce_str) z_eq)) (cs_ret (ce_tup (ca_cons (ce_var 4) (ca_cons (ce_xf hd) ca_nil)))) cs_next)
      (cs_ret (ce_tup (ca_cons (ce_var 4) (ca_cons (ce_cut0 (ce_if (ct_test (ce_op (co_s 4) (co_e ce_str) z_eq)) (ce_xf hd) ce_int)) ca_nil)))))))))))))))))
      (cs_ret ce_non)) ?_
  · rw [len__law_word_of ds R hp0]; rfl
  clear hf hi k
  clear hr hu64 hu
  obtain ⟨n, cs, N0, X0, rfl, ho, h0, hx⟩ := hp0
  walk_at "z"
  refine ⟨n, cs, rfl, ho _ _ (fun hn b d => ?_) (fun x hX => ?_)⟩
  · walk_at "z"
    exact h0 hn
  obtain ⟨w, hw, hr⟩ := hx x hX
  clear hx hX h0 ho
  cases hw
  case pins =>
    refine ⟨by show ("BadPins" : Str) ∈ _; decide, fun a => ?_⟩
    walk_at "z"
    refine ⟨[true, false, false, false, false, false, false, false, false, false, false, false, false, false, false, false, false], true, by rfl, rfl, ?_⟩
    walk_at "zz"
    refine ⟨[true, false, false, false, false, false, false, false, false, false, false, false, false, false, false, false, false], true, 0, by rfl, rfl, rfl, by decide, ?_⟩
    refine zIx_l (k := 0) (by decide) (.inl rfl) fun d hd => ?_
    cases hd
    walk_at "z"
    refine zIn_tstrs (l := [[114, 111, 119], [99, 111, 117, 110, 116, 115], [108, 111, 116]]) ?_
    walk_at "z"
    try rw [if_neg (by decide)]
    walk_at "z"
    walk_at "eqs"
    try rw [if_neg (by decide)]
    walk_at "z"
    walk_at "eqs"
    try rw [if_neg (by decide)]
    walk_at "z"
    walk_at "eqs"
    try rw [if_neg (by decide)]
    walk_at "zz"
    exact hr
  case norow =>
    refine ⟨by show ("NoRow" : Str) ∈ _; decide, fun a => ?_⟩
    walk_at "z"
    refine ⟨[false, true, false, false, false, false, false, false, false, false, false, false, false, false, false, false, false], true, by rfl, rfl, ?_⟩
    walk_at "zz"
    refine ⟨[false, true, false, false, false, false, false, false, false, false, false, false, false, false, false, false, false], true, 1, by rfl, rfl, rfl, by decide, ?_⟩
    refine zIx_l (k := 1) (by decide) (.inl rfl) fun d hd => ?_
    cases hd
    walk_at "z"
    refine zIn_tstrs (l := [[114, 111, 119], [99, 111, 117, 110, 116, 115], [108, 111, 116]]) ?_
    walk_at "z"
    try rw [if_neg (by decide)]
    walk_at "z"
    walk_at "eqs"
    try rw [if_neg (by decide)]
    walk_at "z"
    walk_at "eqs"
    try rw [if_neg (by decide)]
    walk_at "z"
    walk_at "eqs"
    try rw [if_neg (by decide)]
    walk_at "zz"
    exact hr
  case unlike =>
    refine ⟨by show ("Unlike" : Str) ∈ _; decide, fun a => ?_⟩
    walk_at "z"
    refine ⟨[false, false, true, false, false, false, false, false, false, false, false, false, false, false, false, false, false], true, by rfl, rfl, ?_⟩
    walk_at "zz"
    refine ⟨[false, false, true, false, false, false, false, false, false, false, false, false, false, false, false, false, false], true, 2, by rfl, rfl, rfl, by decide, ?_⟩
    refine zIx_l (k := 2) (by decide) (.inl rfl) fun d hd => ?_
    cases hd
    walk_at "z"
    refine zIn_tstrs (l := [[114, 111, 119], [99, 111, 117, 110, 116, 115], [108, 111, 116]]) ?_
    walk_at "z"
    try rw [if_neg (by decide)]
    walk_at "z"
    walk_at "eqs"
    try rw [if_neg (by decide)]
    walk_at "z"
    walk_at "eqs"
    try rw [if_neg (by decide)]
    walk_at "z"
    walk_at "eqs"
    try rw [if_neg (by decide)]
    walk_at "zz"
    exact hr
  case long =>
    refine ⟨by show ("TooLong" : Str) ∈ _; decide, fun a => ?_⟩
    walk_at "z"
    refine ⟨[false, false, false, true, false, false, false, false, false, false, false, false, false, false, false, false, false], true, by rfl, rfl, ?_⟩
    walk_at "zz"
    refine ⟨[false, false, false, true, false, false, false, false, false, false, false, false, false, false, false, false, false], true, 3, by rfl, rfl, rfl, by decide, ?_⟩
    refine zIx_l (k := 3) (by decide) (.inl rfl) fun d hd => ?_
    cases hd
    walk_at "z"
    refine zIn_tstrs (l := [[114, 111, 119], [99, 111, 117, 110, 116, 115], [108, 111, 116]]) ?_
    walk_at "z"
    try rw [if_neg (by decide)]
    walk_at "z"
    walk_at "eqs"
    try rw [if_neg (by decide)]
    walk_at "z"
    walk_at "eqs"
    try rw [if_neg (by decide)]
    walk_at "z"
    walk_at "eqs"
    try rw [if_neg (by decide)]
    walk_at "zz"
    exact hr
  case number =>
    refine ⟨by show ("BadNumber" : Str) ∈ _; decide, fun a => ?_⟩
    walk_at "z"
    refine ⟨[false, false, false, false, true, false, false, false, false, false, false, false, false, false, false, false, false], true, by rfl, rfl, ?_⟩
    walk_at "zz"
    refine ⟨[false, false, false, false, true, false, false, false, false, false, false, false, false, false, false, false, false], true, 4, by rfl, rfl, rfl, by decide, ?_⟩
    refine zIx_l (k := 4) (by decide) (.inl rfl) fun d hd => ?_
    cases hd
    walk_at "z"
    refine zIn_tstrs (l := [[114, 111, 119], [99, 111, 117, 110, 116, 115], [108, 111, 116]]) ?_
    walk_at "z"
    try rw [if_neg (by decide)]
    walk_at "z"
    walk_at "eqs"
    try rw [if_neg (by decide)]
    walk_at "z"
    walk_at "eqs"
    try rw [if_neg (by decide)]
    walk_at "z"
    walk_at "eqs"
    try rw [if_neg (by decide)]
    walk_at "zz"
    exact hr
  case prices =>
    refine ⟨by show ("BadPrices" : Str) ∈ _; decide, fun a => ?_⟩
    walk_at "z"
    refine ⟨[false, false, false, false, false, true, false, false, false, false, false, false, false, false, false, false, false], true, by rfl, rfl, ?_⟩
    walk_at "zz"
    refine ⟨[false, false, false, false, false, true, false, false, false, false, false, false, false, false, false, false, false], true, 5, by rfl, rfl, rfl, by decide, ?_⟩
    refine zIx_l (k := 5) (by decide) (.inl rfl) fun d hd => ?_
    cases hd
    walk_at "z"
    refine zIn_tstrs (l := [[114, 111, 119], [99, 111, 117, 110, 116, 115], [108, 111, 116]]) ?_
    walk_at "z"
    try rw [if_neg (by decide)]
    walk_at "z"
    walk_at "eqs"
    try rw [if_neg (by decide)]
    walk_at "z"
    walk_at "eqs"
    try rw [if_neg (by decide)]
    walk_at "z"
    walk_at "eqs"
    try rw [if_neg (by decide)]
    walk_at "zz"
    exact hr
  case side =>
    refine ⟨by show ("BadSide" : Str) ∈ _; decide, fun a => ?_⟩
    walk_at "z"
    refine ⟨[false, false, false, false, false, false, true, false, false, false, false, false, false, false, false, false, false], true, by rfl, rfl, ?_⟩
    walk_at "zz"
    refine ⟨[false, false, false, false, false, false, true, false, false, false, false, false, false, false, false, false, false], true, 6, by rfl, rfl, rfl, by decide, ?_⟩
    refine zIx_l (k := 6) (by decide) (.inl rfl) fun d hd => ?_
    cases hd
    walk_at "z"
    refine zIn_tstrs (l := [[114, 111, 119], [99, 111, 117, 110, 116, 115], [108, 111, 116]]) ?_
    walk_at "z"
    try rw [if_neg (by decide)]
    walk_at "z"
    walk_at "eqs"
    try rw [if_neg (by decide)]
    walk_at "z"
    walk_at "eqs"
    try rw [if_neg (by decide)]
    walk_at "z"
    walk_at "eqs"
    try rw [if_neg (by decide)]
    walk_at "zz"
    exact hr
  case piece =>
    refine ⟨by show ("NoPiece" : Str) ∈ _; decide, fun a => ?_⟩
    walk_at "z"
    refine ⟨[false, false, false, false, false, false, false, true, false, false, false, false, false, false, false, false, false], true, by rfl, rfl, ?_⟩
    walk_at "zz"
    refine ⟨[false, false, false, false, false, false, false, true, false, false, false, false, false, false, false, false, false], true, 7, by rfl, rfl, rfl, by decide, ?_⟩
    refine zIx_l (k := 7) (by decide) (.inl rfl) fun d hd => ?_
    cases hd
    walk_at "z"
    refine zIn_tstrs (l := [[114, 111, 119], [99, 111, 117, 110, 116, 115], [108, 111, 116]]) ?_
    walk_at "z"
    try rw [if_neg (by decide)]
    walk_at "z"
    walk_at "eqs"
    try rw [if_neg (by decide)]
    walk_at "z"
    walk_at "eqs"
    try rw [if_neg (by decide)]
    walk_at "z"
    walk_at "eqs"
    try rw [if_neg (by decide)]
    walk_at "zz"
    exact hr
  case name =>
    refine ⟨by show ("BadName" : Str) ∈ _; decide, fun a => ?_⟩
    walk_at "z"
    refine ⟨[false, false, false, false, false, false, false, false, true, false, false, false, false, false, false, false, false], true, by rfl, rfl, ?_⟩
    walk_at "zz"
    refine ⟨[false, false, false, false, false, false, false, false, true, false, false, false, false, false, false, false, false], true, 8, by rfl, rfl, rfl, by decide, ?_⟩
    refine zIx_l (k := 8) (by decide) (.inl rfl) fun d hd => ?_
    cases hd
    walk_at "z"
    refine zIn_tstrs (l := [[114, 111, 119], [99, 111, 117, 110, 116, 115], [108, 111, 116]]) ?_
    walk_at "z"
    try rw [if_neg (by decide)]
    walk_at "z"
    walk_at "eqs"
    try rw [if_neg (by decide)]
    walk_at "z"
    walk_at "eqs"
    try rw [if_neg (by decide)]
    walk_at "z"
    walk_at "eqs"
    try rw [if_neg (by decide)]
    walk_at "zz"
    exact hr
  case point =>
    refine ⟨by show ("NoPoint" : Str) ∈ _; decide, fun a => ?_⟩
    walk_at "z"
    refine ⟨[false, false, false, false, false, false, false, false, false, true, false, false, false, false, false, false, false], true, by rfl, rfl, ?_⟩
    walk_at "zz"
    refine ⟨[false, false, false, false, false, false, false, false, false, true, false, false, false, false, false, false, false], true, 9, by rfl, rfl, rfl, by decide, ?_⟩
    refine zIx_l (k := 9) (by decide) (.inl rfl) fun d hd => ?_
    cases hd
    walk_at "z"
    refine zIn_tstrs (l := [[114, 111, 119], [99, 111, 117, 110, 116, 115], [108, 111, 116]]) ?_
    walk_at "z"
    try rw [if_neg (by decide)]
    walk_at "z"
    walk_at "eqs"
    try rw [if_neg (by decide)]
    walk_at "z"
    walk_at "eqs"
    try rw [if_neg (by decide)]
    walk_at "z"
    walk_at "eqs"
    try rw [if_neg (by decide)]
    walk_at "zz"
    exact hr
  case clash =>
    refine ⟨by show ("Clash" : Str) ∈ _; decide, fun a => ?_⟩
    walk_at "z"
    refine ⟨[false, false, false, false, false, false, false, false, false, false, true, false, false, false, false, false, false], true, by rfl, rfl, ?_⟩
    walk_at "zz"
    refine ⟨[false, false, false, false, false, false, false, false, false, false, true, false, false, false, false, false, false], true, 10, by rfl, rfl, rfl, by decide, ?_⟩
    refine zIx_l (k := 10) (by decide) (.inl rfl) fun d hd => ?_
    cases hd
    walk_at "z"
    refine zIn_tstrs (l := [[114, 111, 119], [99, 111, 117, 110, 116, 115], [108, 111, 116]]) ?_
    walk_at "z"
    try rw [if_neg (by decide)]
    walk_at "z"
    walk_at "eqs"
    try rw [if_neg (by decide)]
    walk_at "z"
    walk_at "eqs"
    try rw [if_neg (by decide)]
    walk_at "z"
    walk_at "eqs"
    try rw [if_neg (by decide)]
    walk_at "zz"
    exact hr
  case row p =>
    refine ⟨by show ("BadRow" : Str) ∈ _; decide, fun a => ?_⟩
    walk_at "z"
    refine ⟨[false, false, false, false, false, false, false, false, false, false, false, true, false, false, false, false, false], true, by rfl, rfl, ?_⟩
    walk_at "zz"
    refine ⟨[false, false, false, false, false, false, false, false, false, false, false, true, false, false, false, false, false], true, 11, by rfl, rfl, rfl, by decide, ?_⟩
    refine zIx_l (k := 11) (by decide) (.inl rfl) fun d hd => ?_
    cases hd
    walk_at "z"
    refine zIn_tstrs (l := [[114, 111, 119], [99, 111, 117, 110, 116, 115], [108, 111, 116]]) ?_
    walk_at "z"
    try rw [if_pos (by decide)]
    walk_at "z"
    first | refine ⟨rfl, _, .int p, rfl, rfl, ?_⟩ | refine ⟨_, .int p, rfl, rfl, ?_⟩
    walk_at "zz"
    exact hr
  case counts p =>
    refine ⟨by show ("BadCounts" : Str) ∈ _; decide, fun a => ?_⟩
    walk_at "z"
    refine ⟨[false, false, false, false, false, false, false, false, false, false, false, false, true, false, false, false, false], true, by rfl, rfl, ?_⟩
    walk_at "zz"
    refine ⟨[false, false, false, false, false, false, false, false, false, false, false, false, true, false, false, false, false], true, 12, by rfl, rfl, rfl, by decide, ?_⟩
    refine zIx_l (k := 12) (by decide) (.inl rfl) fun d hd => ?_
    cases hd
    walk_at "z"
    refine zIn_tstrs (l := [[114, 111, 119], [99, 111, 117, 110, 116, 115], [108, 111, 116]]) ?_
    walk_at "z"
    try rw [if_pos (by decide)]
    walk_at "z"
    first | refine ⟨rfl, _, .int p, rfl, rfl, ?_⟩ | refine ⟨_, .int p, rfl, rfl, ?_⟩
    walk_at "zz"
    exact hr
  case lot p =>
    refine ⟨by show ("BadLot" : Str) ∈ _; decide, fun a => ?_⟩
    walk_at "z"
    refine ⟨[false, false, false, false, false, false, false, false, false, false, false, false, false, true, false, false, false], true, by rfl, rfl, ?_⟩
    walk_at "zz"
    refine ⟨[false, false, false, false, false, false, false, false, false, false, false, false, false, true, false, false, false], true, 13, by rfl, rfl, rfl, by decide, ?_⟩
    refine zIx_l (k := 13) (by decide) (.inl rfl) fun d hd => ?_
    cases hd
    walk_at "z"
    refine zIn_tstrs (l := [[114, 111, 119], [99, 111, 117, 110, 116, 115], [108, 111, 116]]) ?_
    walk_at "z"
    try rw [if_pos (by decide)]
    walk_at "z"
    first | refine ⟨rfl, _, .int p, rfl, rfl, ?_⟩ | refine ⟨_, .int p, rfl, rfl, ?_⟩
    walk_at "zz"
    exact hr
  case turn m l =>
    refine ⟨by show ("BadTurn" : Str) ∈ _; decide, fun a => ?_⟩
    walk_at "z"
    refine ⟨[false, false, false, false, false, false, false, false, false, false, false, false, false, false, true, false, false], true, by rfl, rfl, ?_⟩
    walk_at "zz"
    refine ⟨[false, false, false, false, false, false, false, false, false, false, false, false, false, false, true, false, false], true, 14, by rfl, rfl, rfl, by decide, ?_⟩
    refine zIx_l (k := 14) (by decide) (.inl rfl) fun d hd => ?_
    cases hd
    walk_at "z"
    refine zIn_tstrs (l := [[114, 111, 119], [99, 111, 117, 110, 116, 115], [108, 111, 116]]) ?_
    walk_at "z"
    try rw [if_neg (by decide)]
    walk_at "z"
    walk_at "eqs"
    try rw [if_pos (by decide)]
    walk_at "z"
    first | refine ⟨rfl, _, .int m, rfl, rfl, ?_⟩ | refine ⟨_, .int m, rfl, rfl, ?_⟩
    walk_at "z"
    first | refine ⟨rfl, _, .str l, rfl, rfl, ?_⟩ | refine ⟨_, .str l, rfl, rfl, ?_⟩
    walk_at "zz"
    exact hr
  case deed p =>
    refine ⟨by show ("BadDeed" : Str) ∈ _; decide, fun a => ?_⟩
    walk_at "z"
    refine ⟨[false, false, false, false, false, false, false, false, false, false, false, false, false, false, false, true, false], true, by rfl, rfl, ?_⟩
    walk_at "zz"
    refine ⟨[false, false, false, false, false, false, false, false, false, false, false, false, false, false, false, true, false], true, 15, by rfl, rfl, rfl, by decide, ?_⟩
    refine zIx_l (k := 15) (by decide) (.inl rfl) fun d hd => ?_
    cases hd
    walk_at "z"
    refine zIn_tstrs (l := [[114, 111, 119], [99, 111, 117, 110, 116, 115], [108, 111, 116]]) ?_
    walk_at "z"
    try rw [if_neg (by decide)]
    walk_at "z"
    walk_at "eqs"
    try rw [if_neg (by decide)]
    walk_at "z"
    walk_at "eqs"
    try rw [if_pos (by decide)]
    walk_at "z"
    first | refine ⟨rfl, _, .int p, rfl, rfl, ?_⟩ | refine ⟨_, .int p, rfl, rfl, ?_⟩
    walk_at "zz"
    exact hr
  case text p =>
    refine ⟨by show ("BadText" : Str) ∈ _; decide, fun a => ?_⟩
    walk_at "z"
    refine ⟨[false, false, false, false, false, false, false, false, false, false, false, false, false, false, false, false, true], true, by rfl, rfl, ?_⟩
    walk_at "zz"
    refine ⟨[false, false, false, false, false, false, false, false, false, false, false, false, false, false, false, false, true], true, 16, by rfl, rfl, rfl, by decide, ?_⟩
    refine zIx_l (k := 16) (by decide) (.inl rfl) fun d hd => ?_
    cases hd
    walk_at "z"
    refine zIn_tstrs (l := [[114, 111, 119], [99, 111, 117, 110, 116, 115], [108, 111, 116]]) ?_
    walk_at "z"
    try rw [if_neg (by decide)]
    walk_at "z"
    walk_at "eqs"
    try rw [if_neg (by decide)]
    walk_at "z"
    walk_at "eqs"
    try rw [if_neg (by decide)]
    walk_at "z"
    walk_at "eqs"
    try rw [if_pos (by decide)]
    walk_at "z"
    first | refine ⟨rfl, _, .int p, rfl, rfl, ?_⟩ | refine ⟨_, .int p, rfl, rfl, ?_⟩
    walk_at "zz"
    exact hr
theorem whyD_okT (row held : List Nat) (d : Dt) : okT (whyD row held d) := by
  have h1 : okT [112, 108, 97, 99, 101] := by show ∀ c ∈ [112, 108, 97, 99, 101], c < 1114112; decide
  have h2 : okT [117, 110, 108, 105, 107, 101] := by show ∀ c ∈ [117, 110, 108, 105, 107, 101], c < 1114112; decide
  have h3 : okT [112, 105, 110, 110, 101, 100] := by show ∀ c ∈ [112, 105, 110, 110, 101, 100], c < 1114112; decide
  have h4 : okT [] := fun c hc => by cases hc
  unfold whyD
  split
  · unfold whyM
    split
    · split
      · exact h2
      · split
        · exact h3
        · exact h4
    · exact h1
  · exact h1
theorem cmp_turn {n : Int} {l : List Nat} (h : okT l) : cmpOk 60 (.tup [.str [116, 117, 114, 110], .tup [.int n, .str l]]) = true := cmpOk_tup fun d hd => by
  rcases List.mem_cons.mp hd with rfl | hd
  · exact cmpOk_str (by show ∀ c ∈ [116, 117, 114, 110], c < 1114112; decide)
  · rw [List.mem_singleton.mp hd]
    exact cmpOk_tup fun d hd => by
      rcases List.mem_cons.mp hd with rfl | hd
      · rfl
      · rw [List.mem_singleton.mp hd]
        exact cmpOk_str h
theorem name_okT {rs : List (List Nat)} (h : RsOk rs) : ∀ x ∈ nameLot rs, okT x := fun x hx => by
  obtain ⟨r, hr, rfl⟩ := List.mem_map.mp (sortT_mem hx)
  exact fun c hc => abc_lt ((h r hr).2 c (nameM_mem hc))
theorem name_len2 (rs : List (List Nat)) : (nameLot rs).length = rs.length := by unfold nameLot; rw [sortT_len, List.length_map]
theorem name_alk {n : Nat} {rs : List (List Nat)} (h : rs.length ≤ 100000) : alk (n + 2) (toP (.tpk ((nameLot rs).map .str))) = true := alk_strs (by rw [name_len2]; exact h)
theorem name_cmp {n : Nat} {rs : List (List Nat)} (h : RsOk rs) : cmpOk (n + 2) (.tpk ((nameLot rs).map .str)) = true := by
  show cmpOks (n + 1) ((nameLot rs).map .str) = true
  exact cmpOks_strs (name_okT h)
theorem two_alk {rs : List (List Nat)} {l : List Nat} (h : rs.length ≤ 100000) : alk 12 (toP (.lst [.str l, .tpk ((nameLot rs).map .str)])) = true := alk_lstD (n := 11) (Nat.le_of_ble_eq_true rfl) fun d hd => by
  rcases List.mem_cons.mp hd with rfl | hd
  · rfl
  · rw [List.mem_singleton.mp hd]; exact name_alk (n := 9) h
theorem two_cmp {rs : List (List Nat)} {l : List Nat} (h : RsOk rs) (hl : okT l) : cmpOk 60 (.lst [.str l, .tpk ((nameLot rs).map .str)]) = true := cmpOk_lst (n := 59) fun d hd => by
  rcases List.mem_cons.mp hd with rfl | hd
  · exact cmpOk_str hl
  · rw [List.mem_singleton.mp hd]; exact name_cmp (n := 57) h
theorem part_shp {rs qs : List (List Nat)} (h : RsOk rs) (g : RsOk qs) : Shp 12 (partLot rs qs) := by
  have o1 : okT (endsLot rs) := fun c hc => ends_okT h c (sortN_mem.mp hc)
  have o2 : okT (endsLot qs) := fun c hc => ends_okT g c (sortN_mem.mp hc)
  unfold partLot
  split
  · have hs := shp_fap (n := 10) (adj_okT (lotT_okT h)) (adj_okT (lotT_okT g))
    cases hf : fapD (adjM (lotT rs)) (adjM (lotT qs)) with
    | tup es =>
      rw [hf] at hs
      cases hs with
      | tup h1 h2 => 
        have hl : es.length ≤ 3 := by
          unfold fapD at hf
          split at hf
          · cases hf
          · injection hf with hf
            rw [← hf]; simp
        exact .tup (by simp; omega) (shp_cons (.str (by show ∀ c ∈ [112, 97, 105, 114], c < 1114112; decide)) h2)
    | _ => exact .non
  · exact .tup (Nat.le_of_ble_eq_true rfl) (shp_cons (.str (by show ∀ c ∈ [101, 110, 100, 115], c < 1114112; decide)) (shp_cons (.str o1) (shp_cons (.str o2) shp_nil)))
theorem bars_turn {l : List Nat} (h : LotOk l) : turnsM l [] ≠ [] := fun e => by
  have hlen : 2 ≤ l.length := by
    have h3 := h.two
    have h4 := h.hd
    match l, h3, h4 with
    | [], _, h4 => cases h4
    | [x], h3, h4 => exact absurd (by rw [show x = 124 from Option.some.inj h4]) h3
    | _ :: _ :: _, _, _ => simp
  have h0 : l.getD 0 0 = 124 := by
    rw [List.getD_eq_getElem?_getD, ← List.head?_eq_getElem?, h.hd]; rfl
  have h1 : l.getD (l.length - 1) 0 = 124 := by
    rw [List.getD_eq_getElem?_getD, ← List.getLast?_eq_getElem?, h.lt]; rfl
  have hm : ((0, l.length - 1) : Nat × Nat) ∈ turnsM l [] := turns_why (whyM_iff.mpr ⟨by show (0 : Nat) < l.length - 1; omega, by show l.length - 1 < l.length; omega, by show l.getD _ 0 = l.getD _ 0; rw [h0, h1], by simp⟩)
  rw [e] at hm
  cases hm
abbrev N_law : List Str := ["_law_script", "_law_d", "_law_turn", "_law_lot_here", "_law_some", "_law_here", "_law_there", "_law_next_one", "_law_rows", "_law_row_here", "_law_other", "_law_longer", "_law_odd", "_law_why_here", "_law_told"]
theorem sc_law : FnScope N_law ["_law_script"] (defScope s_law) := ⟨rfl, rfl, rfl, by decide +kernel, rfl, by decide +kernel, by decide +kernel⟩
def sp_law (K : PySem.W.Frag) (Pt : Addr) : Sp := fun vs H Q _ => ∃ (a : Addr) (ns : List Int), vs = [.ref a] ∧ SqL K H a (ns.map V.int) ∧ ns.length ≤ 63 ∧ H Pt = some (.tbl #[]) ∧ ∀ H', Q (.bl true) H'
theorem capsOk {p : LamP} (hL : p.lam = lamF) : CapsOk p capsF N_law (defScope s_law) := by
  intro n
  rw [hL]
  match n with
  | 0 => exact ⟨by decide +kernel, by decide +kernel⟩
  | _ + 1 => exact ⟨rfl, fun y hy => by cases hy⟩
theorem ok_law {P : Program} {w : World} {K : PySem.W.Frag} {mg : Str → Option Value} {base : Heap} {f c Pt : Addr} {fd : FuncData} (T : Txt K mg) (F : FunD K "law" "law" (defArgs s_law) (defBody s_law) (defScope s_law) [] [] f fd) (hcd : fd.code = .ref c) (TB : TabB base mg c Pt) : FnOk P w K mg base CX0 14 f fd ["_law_script"] (sp_law K Pt) := by
  refine FunD.okC F sc_law (fun vs H Q E h => by obtain ⟨a, ns, rfl, _⟩ := h; rfl) (fun A outer s H vs Q E hr h => ?_)
  let pL : LamP := ⟨[(Pt, (envOfC "law" (defScope s_law) s.heap.objs.size f fd.code).qual ++ "<lambda>")], (envOfC "law" (defScope s_law) s.heap.objs.size f fd.code).qual ++ "<lambda>", (envOfC "law" (defScope s_law) s.heap.objs.size f fd.code).cells, lamF, s.heap⟩
  letI hLam : HasLam := ⟨pL⟩
  obtain ⟨f__law_alike, fd__law_alike, g__law_alike, kp__law_alike, b__law_alike, G__law_alike⟩ := (ok__law_alike (P := P) (w := w) (K := K) (mg := mg) (base := base) T).ex
  obtain ⟨f__law_dice, fd__law_dice, g__law_dice, kp__law_dice, b__law_dice, G__law_dice⟩ := (ok__law_dice (P := P) (w := w) (K := K) (mg := mg) (base := base) T).ex
  obtain ⟨f__law_lot, fd__law_lot, g__law_lot, kp__law_lot, b__law_lot, G__law_lot⟩ := (ok__law_lot (P := P) (w := w) (K := K) (mg := mg) (base := base) T).ex
  obtain ⟨f__law_lot_name, fd__law_lot_name, g__law_lot_name, kp__law_lot_name, b__law_lot_name, G__law_lot_name⟩ := (ok__law_lot_name (P := P) (w := w) (K := K) (mg := mg) (base := base) T).ex
  obtain ⟨f__law_lots_parted, fd__law_lots_parted, g__law_lots_parted, kp__law_lots_parted, b__law_lots_parted, G__law_lots_parted⟩ := (ok__law_lots_parted (P := P) (w := w) (K := K) (mg := mg) (base := base) T).ex
  obtain ⟨f__law_mixed, fd__law_mixed, g__law_mixed, kp__law_mixed, b__law_mixed, G__law_mixed⟩ := (ok__law_mixed (P := P) (w := w) (K := K) (mg := mg) (base := base) T).ex
  obtain ⟨f__law_off, fd__law_off, g__law_off, kp__law_off, b__law_off, G__law_off⟩ := (ok__law_off (P := P) (w := w) (K := K) (mg := mg) (base := base) T).ex
  obtain ⟨f__law_signs, fd__law_signs, g__law_signs, kp__law_signs, b__law_signs, G__law_signs⟩ := (ok__law_signs (P := P) (w := w) (K := K) (mg := mg) (base := base) T).ex
  obtain ⟨f__law_turned, fd__law_turned, g__law_turned, kp__law_turned, b__law_turned, G__law_turned⟩ := (ok__law_turned (P := P) (w := w) (K := K) (mg := mg) (base := base) T).ex
  obtain ⟨f__law_turns, fd__law_turns, g__law_turns, kp__law_turns, b__law_turns, G__law_turns⟩ := (ok__law_turns (P := P) (w := w) (K := K) (mg := mg) (base := base) T).ex
  obtain ⟨f__law_why, fd__law_why, g__law_why, kp__law_why, b__law_why, G__law_why⟩ := (ok__law_why (P := P) (w := w) (K := K) (mg := mg) (base := base) T).ex
  obtain ⟨f__law_word_of, fd__law_word_of, g__law_word_of, F__law_word_of⟩ := T.f__law_word_of
  have kp__law_word_of := F__law_word_of.kp
  have b__law_word_of := F__law_word_of.bindsN (ps := ["_law_work"]) (fun _ _ _ _ _ _ us hl => match us, hl with | [_], _ => rfl)
  have G__law_word_of : ∀ B, CellsIn (pL.at B) → FnOk P w K mg B CX0 6 f__law_word_of fd__law_word_of _ (@spZ (ziP (pL.at B)) pf__law_word_of) := fun B hB => @okF__law_word_of ⟨pL.at B⟩ P w K mg B rfl rfl hB T _ _ F__law_word_of
  obtain ⟨f_lot_name, fd_lot_name, g_lot_name, kp_lot_name, b_lot_name, G_lot_name⟩ := (ok_lot_name (P := P) (w := w) (K := K) (mg := mg) (base := base) T).ex
  obtain ⟨f_lot_turned, fd_lot_turned, g_lot_turned, kp_lot_turned, b_lot_turned, G_lot_turned⟩ := (ok_lot_turned (P := P) (w := w) (K := K) (mg := mg) (base := base) T).ex
  obtain ⟨f_lots_parted, fd_lots_parted, g_lots_parted, kp_lots_parted, b_lots_parted, G_lots_parted⟩ := (ok_lots_parted (P := P) (w := w) (K := K) (mg := mg) (base := base) T).ex
  have hu64 : (A.deeper (envOfC "law" (defScope s_law) s.heap.objs.size f fd.code)).units + 64 < cLine := hr.units
  have hu : (A.deeper (envOfC "law" (defScope s_law) s.heap.objs.size f fd.code)).units + 1 < cLine := by omega
  have capsOk := capsOk (p := pL) rfl
  obtain ⟨a, ns, rfl, ha, hn, hi, hQ⟩ := h
  refine ⟨_, PSs.nox (pss_cons (ps_set (i := 1) sc_law.nd rfl (Or.inr rfl) (pe_call G__law_dice (hr.mono (by decide)) rfl g__law_dice kp__law_dice b__law_dice .nil pass0 (pa_cons (pv 0) (pa_cons pe_int pa_nil))))
      (pss_cons (ps_for PassesOwn.never rfl (pi_range1 (by rfl) T.z_range (pa_cons pe_int pa_nil)) (pg_name (i := 2) sc_law.nd rfl (Or.inl rfl)) (pss_cons (ps_set (i := 3) sc_law.nd rfl (Or.inr rfl) (pe_call G__law_lot (hr.mono (by decide)) rfl g__law_lot kp__law_lot b__law_lot .nil pass0 (pa_cons (pv 1) (pa_cons (pe_call G__law_signs (hr.mono (by decide)) rfl g__law_signs kp__law_signs b__law_signs .nil pass0 (pa_cons (pv 1) pa_nil)) (pa_cons pe_int (pa_cons pe_int pa_nil))))))
      (pss_cons (ps_if (pt_not (pt_val (pe_call G__law_alike (hr.mono (by decide)) rfl g__law_alike kp__law_alike b__law_alike .nil pass0 (pa_cons (pe_call G_lot_name (hr.mono (by decide)) rfl g_lot_name kp_lot_name b_lot_name .nil passF (pa_cons (pv 3) pa_nil)) (pa_cons (pe_call G__law_lot_name (hr.mono (by decide)) rfl g__law_lot_name kp__law_lot_name b__law_lot_name .nil pass0 (pa_cons (pv 3) pa_nil)) pa_nil))))) (pss_one (ps_ret pe_bl)) pss_nil)
      (pss_cons (ps_set (i := 4) sc_law.nd rfl (Or.inl rfl) (pe_call G__law_turns (hr.mono (by decide)) rfl g__law_turns kp__law_turns b__law_turns .nil pass0 (pa_cons (pv 3) (pa_cons (pe_strL (l := []) (by decide +kernel)) pa_nil))))
      (pss_cons (ps_asg (pe_ix (ix_K (K := K) rfl) (pv 4) (pe_call G__law_off (hr.mono (by decide)) rfl g__law_off kp__law_off b__law_off .nil pass0 (pa_cons (pv 1) (pa_cons (pe_callB (call_lenK (K := K) rfl) (by rfl) T.z_len PySem.boot_len (pa_cons (pv 4) pa_nil)) pa_nil))) (fun _ _ => rfl)) (pg_tupK (K := K) (n := 2) rfl (by rfl) (pgs_cons (pg_name (i := 5) sc_law.nd rfl (Or.inl rfl)) (pgs_cons (pg_name (i := 6) sc_law.nd rfl (Or.inl rfl)) pgs_nil))))
      (pss_cons (ps_set (i := 7) sc_law.nd rfl (Or.inl rfl) (pe_call G__law_turned (hr.mono (by decide)) rfl g__law_turned kp__law_turned b__law_turned .nil pass0 (pa_cons (pv 3) (pa_cons (pv 5) (pa_cons (pv 6) pa_nil)))))
      (pss_cons (ps_if (pt_not (pt_val (pe_call G__law_alike (hr.mono (by decide)) rfl g__law_alike kp__law_alike b__law_alike .nil pass0 (pa_cons (pe_lstX (pa_cons (pe_call G_lot_turned (hr.mono (by decide)) rfl g_lot_turned kp_lot_turned b_lot_turned .nil passF (pa_cons (pv 3) (pa_cons (pv 5) (pa_cons (pv 6) pa_nil)))) (pa_cons (pe_call G_lot_name (hr.mono (by decide)) rfl g_lot_name kp_lot_name b_lot_name .nil passF (pa_cons (pv 7) pa_nil)) pa_nil))) (pa_cons (pe_lstX (pa_cons (pv 7) (pa_cons (pe_call G__law_lot_name (hr.mono (by decide)) rfl g__law_lot_name kp__law_lot_name b__law_lot_name .nil pass0 (pa_cons (pv 7) pa_nil)) pa_nil))) pa_nil))))) (pss_one (ps_ret pe_bl)) pss_nil)
      (pss_cons (ps_setLc (i := 8) (own := [("_law_row_here", 9)]) rfl sc_law.nd rfl rfl (sw_true rfl rfl rfl (by decide +kernel)) (pi_anyK (K := K) rfl (pe_bmK (K := K) rfl PySem.F.plainAttrs_str PySem.F.slot_str_split PySem.F.type_str_split mt_splitS (pv 3) (pa_cons (pe_strL (l := [124]) (by decide +kernel)) pa_nil))) (blkOk_by (own := [("_law_row_here", 9)]) (N := N_law) (sc := defScope s_law) (by decide +kernel)) (fun _ _ _ _ _ => (pg_name (i := 9) sc_law.nd rfl (Or.inl rfl))) (fun _ _ _ _ _ => (pts_cut (pts_one (pt_cmpR (op_neK (K := K) rfl hu64) (pv 9) (pe_strL (l := []) (by decide +kernel)) (nomark _))))) (fun _ _ _ _ _ => (pe_cut (pv 9))))
      (pss_cons (ps_set (i := 10) sc_law.nd rfl (Or.inl rfl) (pe_op op_addZ (pe_op op_addZ (pe_strL (l := [124]) (by decide +kernel)) (pe_bmK (K := K) rfl PySem.F.plainAttrs_str PySem.F.slot_str_join PySem.F.type_str_join (mt_joinK (K := K) rfl) (pe_strL (l := [124]) (by decide +kernel)) (pa_cons (pe_call G__law_mixed (hr.mono (by decide)) rfl g__law_mixed kp__law_mixed b__law_mixed .nil pass0 (pa_cons (pv 1) (pa_cons (pe_lc (own := [("_law_row_here", 9)]) rfl sc_law.nd (pi_anyK (K := K) rfl (pv 8)) (blkOk_by (own := [("_law_row_here", 9)]) (N := N_law) (sc := defScope s_law) (by decide +kernel)) (fun _ _ _ _ _ => (pg_name (i := 9) sc_law.nd rfl (Or.inl rfl))) (fun _ _ _ _ _ => (pts_cut pts_nil)) (fun _ _ _ _ _ => (pe_cut (pe_bmK (K := K) rfl PySem.F.plainAttrs_str PySem.F.slot_str_join PySem.F.type_str_join (mt_joinK (K := K) rfl) (pe_strL (l := []) (by decide +kernel)) (pa_cons (pe_call G__law_mixed (hr.mono (by decide)) rfl g__law_mixed kp__law_mixed b__law_mixed .nil pass0 (pa_cons (pv 1) (pa_cons (pe_callTy (call_listK (K := K) rfl rfl) (by rfl) T.z_list (by decide +kernel) (pa_cons (pv 9) pa_nil)) pa_nil))) pa_nil))))) pa_nil))) pa_nil))) (pe_strL (l := [124]) (by decide +kernel))))
      (pss_cons (ps_set (i := 11) sc_law.nd rfl (Or.inl rfl) (pe_cut (pe_ifExp (pt_cmpR op_ltU (pe_callB (call_lenK (K := K) rfl) (by rfl) T.z_len PySem.boot_len (pa_cons (pv 3) pa_nil)) pe_int (nomark _)) (pe_op op_addZ (pe_op op_addZ (pv 3) (pe_slice sl_Z (pe_ix (ix_K (K := K) rfl) (pv 8) pe_int (fun _ _ => rfl)) po_none (po_some (pe_op op_sub pe_int (pe_callB (call_lenK (K := K) rfl) (by rfl) T.z_len PySem.boot_len (pa_cons (pv 3) pa_nil)))))) (pe_strL (l := [124]) (by decide +kernel))) (pv 3))))
      (pss_cons (ps_set (i := 10) sc_law.nd rfl (Or.inl rfl) (pe_ix (ix_K (K := K) rfl) (pe_lstX (pa_cons (pv 10) (pa_cons (pv 7) (pa_cons (pv 11) (pa_cons (pe_call G__law_lot (hr.mono (by decide)) rfl g__law_lot kp__law_lot b__law_lot .nil pass0 (pa_cons (pv 1) (pa_cons (pe_lstX (pa_cons (pe_strL (l := [97]) (by decide +kernel)) (pa_cons (pe_strL (l := [98]) (by decide +kernel)) pa_nil))) (pa_cons pe_int (pa_cons pe_int pa_nil))))) pa_nil))))) (pe_call G__law_off (hr.mono (by decide)) rfl g__law_off kp__law_off b__law_off .nil pass0 (pa_cons (pv 1) (pa_cons pe_int pa_nil))) (fun _ _ => rfl)))
      (pss_cons (ps_if (pt_not (pt_val (pe_call G__law_alike (hr.mono (by decide)) rfl g__law_alike kp__law_alike b__law_alike .nil pass0 (pa_cons (pe_call G_lots_parted (hr.mono (by decide)) rfl g_lots_parted kp_lots_parted b_lots_parted .nil passF (pa_cons (pv 3) (pa_cons (pv 10) pa_nil))) (pa_cons (pe_call G__law_lots_parted (hr.mono (by decide)) rfl g__law_lots_parted kp__law_lots_parted b__law_lots_parted .nil pass0 (pa_cons (pv 3) (pa_cons (pv 10) pa_nil))) pa_nil))))) (pss_one (ps_ret pe_bl)) pss_nil)
      (pss_cons (ps_par (i := 5) (j := 6) (by rfl) sc_law.nd rfl rfl (by decide) rfl rfl (pa_cons (pe_call G__law_off (hr.mono (by decide)) rfl g__law_off kp__law_off b__law_off .nil pass0 (pa_cons (pv 1) (pa_cons (pe_op op_addZ (pe_callB (call_lenK (K := K) rfl) (by rfl) T.z_len PySem.boot_len (pa_cons (pv 3) pa_nil)) pe_int) pa_nil))) (pa_cons (pe_call G__law_off (hr.mono (by decide)) rfl g__law_off kp__law_off b__law_off .nil pass0 (pa_cons (pv 1) (pa_cons (pe_op op_addZ (pe_callB (call_lenK (K := K) rfl) (by rfl) T.z_len PySem.boot_len (pa_cons (pv 3) pa_nil)) pe_int) pa_nil))) pa_nil)) (by rfl))
      (pss_cons (ps_set (i := 12) sc_law.nd rfl (Or.inr rfl) (pe_ix (ix_K (K := K) rfl) (pe_lstX (pa_cons (pe_tupX (pa_cons (pv 5) (pa_cons (pv 6) pa_nil))) (pa_cons (pe_tupX (pa_cons (pv 6) (pa_cons (pv 5) pa_nil))) (pa_cons (pe_tupX (pa_cons pe_non (pa_cons (pv 6) pa_nil))) (pa_cons (pe_tupX (pa_cons (pv 5) (pa_cons pe_bl pa_nil))) (pa_cons (pe_tupX (pa_cons (pv 5) (pa_cons (pe_op op_sub pe_int pe_int) pa_nil))) (pa_cons (pe_tupX (pa_cons pe_int (pa_cons (pe_strL (l := [49]) (by decide +kernel)) pa_nil))) pa_nil))))))) (pe_call G__law_off (hr.mono (by decide)) rfl g__law_off kp__law_off b__law_off .nil pass0 (pa_cons (pv 1) (pa_cons pe_int pa_nil))) (fun _ _ => rfl)))
      (pss_cons (ps_set (i := 13) sc_law.nd rfl (Or.inl rfl) (pe_call G__law_why (hr.mono (by decide)) rfl g__law_why kp__law_why b__law_why .nil pass0 (pa_cons (pv 3) (pa_cons (pv 12) pa_nil))))
      (pss_cons (ps_set (i := 14) sc_law.nd rfl (Or.inl rfl) (pe_callH (p := pL) rfl G__law_word_of (hr.mono (by decide)) rfl g__law_word_of kp__law_word_of b__law_word_of (fun y c h => env_ge h) (pa_cons (pe_lam0 (L := lam_0) TB hcd (List.mem_singleton.mpr rfl) (fun p hp _ => by rw [List.mem_singleton.mp hp]) (NdefX.ndef_free (fr := []) (show NdefX.ndefB (defScope s_law) lam_0.scope [] = true from by decide +kernel)) rfl rfl) pa_nil)))
      (pss_one (ps_if (pt_cmpR (op_neK (K := K) rfl hu64) (pv 14) (pe_cut (pe_ifExp (pt_cmpR (op_neK (K := K) rfl hu64) (pv 13) (pe_strL (l := []) (by decide +kernel)) (nomark _)) (pe_tupX (pa_cons (pe_strL (l := [116, 117, 114, 110]) (by decide +kernel)) (pa_cons (pe_tupX (pa_cons pe_int (pa_cons (pv 13) pa_nil))) pa_nil))) pe_non)) (nomark _)) (pss_one (ps_ret pe_bl)) pss_nil))))))))))))))))))
      (pss_one (ps_ret pe_bl)))), ?_⟩
  refine w_seq (w_asg (w_callN (w_cons (w_var (v := .ref a) rfl (w_cons (w_c (w_nil (use__law_dice (ns := ns) ha hn ⟨by decide, by decide⟩ fun p H1 hp e1 h1 => w_name ?_))))))))
  refine z_law (vs := [.ref a, .ref p]) (ds := [.val (.ref a), .dice]) (n := 13) (.cons rfl (.cons ⟨p, rfl, trivial, h1⟩ .nil)) ((ivL rfl hi).ex e1) hQ (cs_seq (cs_for (vs := [2]) (ci_rng1 ce_int) (cg_name (by decide)) (cs_seq (cs_set (i := 3) (ce_call (ca_cons (ce_var 1) (ca_cons (ce_call (ca_cons (ce_var 1) ca_nil) pu__law_signs) (ca_cons ce_int (ca_cons ce_int ca_nil)))) pu__law_lot))
      (cs_seq (cs_if (ct_not (ct_B (ce_call (ca_cons (ce_callX lxF (ca_cons (ce_var 3) ca_nil) pq_lot_name) (ca_cons (ce_call (ca_cons (ce_var 3) ca_nil) pu__law_lot_name) ca_nil)) pu__law_alike))) (cs_ret ce_bl) cs_next)
      (cs_seq (cs_set (i := 4) (ce_call (ca_cons (ce_var 3) (ca_cons ce_str ca_nil)) pu__law_turns))
      (cs_seq (cs_asg (vs := [5, 6]) (ce_op (co_s 4) (co_e (ce_call (ca_cons (ce_var 1) (ca_cons (ce_cb1 (co_s 4) z_len) ca_nil)) pu__law_off)) z_ix) (cg_tup (cgs_cons (cg_name (by decide)) (cgs_cons (cg_name (by decide)) cgs_nil))))
      (cs_seq (cs_set (i := 7) (ce_call (ca_cons (ce_var 3) (ca_cons (ce_var 5) (ca_cons (ce_var 6) ca_nil))) pu__law_turned))
      (cs_seq (cs_if (ct_not (ct_B (ce_call (ca_cons (ce_lst (ca_cons (ce_callX lxF (ca_cons (ce_var 3) (ca_cons (ce_var 5) (ca_cons (ce_var 6) ca_nil))) pq_lot_turned) (ca_cons (ce_callX lxF (ca_cons (ce_var 7) ca_nil) pq_lot_name) ca_nil))) (ca_cons (ce_lst (ca_cons (ce_var 7) (ca_cons (ce_call (ca_cons (ce_var 7) ca_nil) pu__law_lot_name) ca_nil))) ca_nil)) pu__law_alike))) (cs_ret ce_bl) cs_next)
      (cs_seq (cs_set (i := 8) (ce_lc (vs := [9]) (ks := []) (ci_any (ce_str1 z_splitS (ce_var 3) (co_e ce_str))) (cg_name (by decide)) (ct_cut0 (ct_test (ce_op (co_s 9) (co_e ce_str) z_ne))) (ce_cut0 (ce_var 9))))
      (cs_seq (cs_set (i := 10) (ce_op (co_e (ce_op (co_e ce_str) (co_e (ce_join ce_str (co_e (ce_call (ca_cons (ce_var 1) (ca_cons (ce_lc (vs := [9]) (ks := [1]) (ci_any (ce_var 8)) (cg_name (by decide)) (ct_cut0 ct_yes) (ce_cut0 (ce_join ce_str (co_e (ce_call (ca_cons (ce_var 1) (ca_cons (ce_cb1 (co_s 9) z_list) ca_nil)) pu__law_mixed))))) ca_nil)) pu__law_mixed)))) z_add)) (co_e ce_str) z_add))
      (cs_seq (cs_set (i := 11) (ce_cut (ce_if (ct_test (ce_op (co_e (ce_cb1 (co_s 3) z_len)) (co_e ce_int) z_lt)) (ce_op (co_e (ce_op (co_s 3) (co_e (ce_sl (co_e (ce_op (co_s 8) (co_e ce_int) z_ix)) cp_no (cp_part (ce_op (co_e ce_int) (co_e (ce_cb1 (co_s 3) z_len)) z_sub)))) z_add)) (co_e ce_str) z_add) (ce_var 3))))
      (cs_seq (cs_set (i := 10) (ce_op (co_e (ce_lst (ca_cons (ce_var 10) (ca_cons (ce_var 7) (ca_cons (ce_var 11) (ca_cons (ce_call (ca_cons (ce_var 1) (ca_cons (ce_lst (ca_cons ce_str (ca_cons ce_str ca_nil))) (ca_cons ce_int (ca_cons ce_int ca_nil)))) pu__law_lot) ca_nil)))))) (co_e (ce_call (ca_cons (ce_var 1) (ca_cons ce_int ca_nil)) pu__law_off)) z_ix))
      (cs_seq (cs_if (ct_not (ct_B (ce_call (ca_cons (ce_callX lxF (ca_cons (ce_var 3) (ca_cons (ce_var 10) ca_nil)) pq_lots_parted) (ca_cons (ce_call (ca_cons (ce_var 3) (ca_cons (ce_var 10) ca_nil)) pu__law_lots_parted) ca_nil)) pu__law_alike))) (cs_ret ce_bl) cs_next)
      (cs_seq (cs_par (ce_call (ca_cons (ce_var 1) (ca_cons (ce_op (co_e (ce_cb1 (co_s 3) z_len)) (co_e ce_int) z_add) ca_nil)) pu__law_off) (ce_call (ca_cons (ce_var 1) (ca_cons (ce_op (co_e (ce_cb1 (co_s 3) z_len)) (co_e ce_int) z_add) ca_nil)) pu__law_off))
      (cs_seq (cs_set (i := 12) (ce_op (co_e (ce_lst (ca_cons (ce_tup (ca_cons (ce_var 5) (ca_cons (ce_var 6) ca_nil))) (ca_cons (ce_tup (ca_cons (ce_var 6) (ca_cons (ce_var 5) ca_nil))) (ca_cons (ce_tup (ca_cons ce_non (ca_cons (ce_var 6) ca_nil))) (ca_cons (ce_tup (ca_cons (ce_var 5) (ca_cons ce_bl ca_nil))) (ca_cons (ce_tup (ca_cons (ce_var 5) (ca_cons (ce_op (co_e ce_int) (co_e ce_int) z_sub) ca_nil))) (ca_cons (ce_tup (ca_cons ce_int (ca_cons ce_str ca_nil))) ca_nil)))))))) (co_e (ce_call (ca_cons (ce_var 1) (ca_cons ce_int ca_nil)) pu__law_off)) z_ix))
      (cs_seq (cs_set (i := 13) (ce_call (ca_cons (ce_var 3) (ca_cons (ce_var 12) ca_nil)) pu__law_why))
      (cs_seq (cs_set (i := 14) (ce_callH (pp := pL) (caps := capsF) rfl capsOk (ca_cons (ce_lam (i := 0) tot_base rfl rfl rfl rfl) ca_nil)))
      (cs_if (ct_test (ce_op (co_s 14) (co_e (ce_cut0 (ce_if (ct_test (ce_op (co_s 13) (co_e ce_str) z_ne)) (ce_tup (ca_cons ce_str (ca_cons (ce_tup (ca_cons ce_int (ca_cons (ce_var 13) ca_nil))) ca_nil))) ce_non))) z_ne)) (cs_ret ce_bl) cs_next)))))))))))))))))
      (cs_ret ce_bl)) ?_
  clear hr hu64 hu hQ hi
  walk_at "z"
  walk_at "for"
  refine for_r 3 (fun i s => ∃ x2 x3 x4 x5 x6 x7 x8 x9 x10 x11 x12 x13 x14, s = [.fz (.val (.ref a)), .fz .dice, x2, x3, x4, x5, x6, x7, x8, x9, x10, x11, x12, x13, x14]) rfl ⟨_, _, _, _, _, _, _, _, _, _, _, _, _, rfl⟩ ?_ ?_
  · rintro i s hi ⟨x2, x3, x4, x5, x6, x7, x8, x9, x10, x11, x12, x13, x14, rfl⟩
    walk_at "z"
    refine ⟨rfl, fun ss s1 s2 s3 s4 => ?_⟩
    walk_at "z"
    refine ⟨.str ss, ss, 30, 5, rfl, .inl rfl, s1, by omega, s4, by decide, by decide, by decide, by decide, fun rs r1 r0 r2 r3 r4 => ?_⟩
    have hlr := lot_len rs
    have hL : LotOk (lotT rs) := LotOk.of r1 r0 (by omega)
    have hLl := hL.len
    clear r4 s1 s2 s3 s4
    walk_at "z"
    refine ⟨_, rfl, LotX.good hL ⟨rs, rfl, r1, r0, ?_⟩⟩
    walk_at "z"
    refine ⟨rs, rfl, r1, r0, by omega, ?_⟩
    walk_at "z"
    have hnl := r2
    refine ⟨_, rfl, name_alk (n := 10) (by omega), name_cmp (n := 58) r1, ?_⟩
    walk_at "z"
    refine ⟨lotT rs, [], rfl, by omega, ?_⟩
    walk_at "z"
    have htl := turnsM_len (lotT rs) []
    have hmul : (lotT rs).length * (lotT rs).length ≤ 40 * 40 := Nat.mul_le_mul hLl hLl
    have hpos : 0 < (turnsM (lotT rs) []).length := List.length_pos_iff.mpr (bars_turn hL)
    refine ⟨(turnsM (lotT rs) []).length, by rw [List.length_map], by omega, by omega, fun q hq => ?_⟩
    refine zIx_l (k := q) (by rw [List.length_map]; omega) (.inl rfl) fun d hd => ?_
    obtain ⟨h, t, hqm, rfl⟩ : ∃ h t : Nat, (h, t) ∈ turnsM (lotT rs) [] ∧ d = .tup [.int (h : Int), .int (t : Int)] := by
      rw [List.getElem?_map] at hd
      cases hq2 : (turnsM (lotT rs) [])[q]? with
      | none => rw [hq2] at hd; cases hd
      | some y => rw [hq2] at hd; exact ⟨y.1, y.2, List.mem_of_getElem? hq2, (Option.some.inj hd).symm⟩
    obtain ⟨q1, q2, _, _⟩ := turnsM_mem hqm
    dsimp only at q1 q2
    have hw := whyM_turns hqm
    dsimp only at hw
    have hN := hL.turn hqm
    obtain ⟨ns', n1, n0, hNe⟩ := hN.rows
    have hNl := hN.len
    have hnl2 := lot_len ns'
    walk_at "z"
    refine ⟨lotT rs, h, t, rfl, by omega, q2, by omega, ?_⟩
    walk_at "z"
    refine ⟨_, _, _, rfl, LotX.good hL ⟨⟨trivial, fun es he x hx => ?_⟩, fun z => ?_, fun qq e1 e2 _ => ?_⟩⟩
    · cases he
      simp only [List.mem_cons, List.not_mem_nil, or_false] at hx
      rcases hx with rfl | rfl <;> exact trivial
    · exact absurd hw z
    injection e1 with e1
    injection e2 with e2
    obtain ⟨qa, qb⟩ := qq
    dsimp only at e1 e2
    obtain rfl : qa = h := by omega
    obtain rfl : qb = t := by omega
    walk_at "z"
    rw [hNe] at hN hNl ⊢
    refine ⟨_, rfl, LotX.good hN ⟨ns', rfl, n1, n0, ?_⟩⟩
    walk_at "z"
    refine ⟨ns', rfl, n1, n0, by omega, ?_⟩
    walk_at "z"
    refine ⟨_, rfl, two_alk (by omega), two_cmp n1 hN.okT, ?_⟩
    walk_at "z"
    walk_at "lc"
    rw [split_lot r1]
    refine lc_fm ([] :: (rs ++ [[]])) .str (fun r => !decide (r = [])) .str rfl (by simp; omega) ?_ ?_
    · intro j r acc G hj hG
      walk_at "z"
      walk_at "nes"
      by_cases q : r = []
      · rw [if_neg (by simp [q])]
        rw [if_neg (by simp [q]), List.append_nil] at hG
        walk_at "z"
        exact hG
      · rw [if_pos (by simpa using q)]
        rw [if_pos (by simpa using q)] at hG
        walk_at "zz"
        exact hG
    rw [lot_flt r1]
    walk_at "z"
    walk_at "lc"
    refine lc_any rs .str (fun i acc => ∃ qs : List (List Nat), acc = qs.map .str ∧ qs.length = i ∧ RsOk qs ∧ (qs.map (·.length)).sum = ((rs.take i).map (·.length)).sum) rfl (by omega) ⟨[], rfl, rfl, fun r hr => (by cases hr), rfl⟩ ?_ ?_
    · rintro j r acc hj ⟨qs, rfl, p1, p2, p3⟩
      have hrm := r1 r (List.mem_of_getElem? hj)
      have hrl := (rows_few r1 (by omega)).2.1 r (List.mem_of_getElem? hj)
      have hro : okT r := fun c hc => abc_lt (hrm.2 c hc)
      walk_at "zz"
      refine ⟨_, rfl, by rw [List.length_map]; omega, cmpOks_signs hro, fun fs pm => ?_⟩
      obtain ⟨m2, pm2, rfl⟩ := perm_map (l := r) (f := fun ch => Dt.str [ch]) pm
      have pl := pm2.length_eq
      walk_at "zz"
      refine zJoin_signs (by omega) ?_
      walk_at "z"
      refine ⟨qs ++ [m2], by rw [List.map_append]; rfl, by rw [List.length_append, p1]; rfl, fun x hx => ?_, ?_⟩
      · rcases List.mem_append.mp hx with hx | hx
        · exact p2 x hx
        · rw [List.mem_singleton.mp hx]
          exact ⟨by rintro rfl; exact hrm.1 (List.length_eq_zero_iff.mp pl.symm), fun c hc => hrm.2 c (pm2.mem_iff.mp hc)⟩
      · rw [List.map_append, List.sum_append, p3, List.take_add_one, hj, List.map_append, List.sum_append]
        simp [pl]
    rintro acc ⟨qs, rfl, p1, p2, p3⟩ -
    rw [List.take_of_length_le (Nat.le_refl _)] at p3
    have hq0 : qs ≠ [] := by rintro rfl; exact r0 (List.length_eq_zero_iff.mp p1.symm)
    walk_at "z"
    refine ⟨_, rfl, by rw [List.length_map]; omega, cmpOks_strs (n := 59) fun x hx c hc => abc_lt ((p2 x hx).2 c hc), fun fs pm => ?_⟩
    obtain ⟨ms, pms, rfl⟩ := perm_map (l := qs) (f := Dt.str) pm
    have m1 : RsOk ms := fun r hr => p2 r (pms.mem_iff.mp hr)
    have ml := pms.length_eq
    have m0 : ms ≠ [] := by rintro rfl; exact hq0 (List.length_eq_zero_iff.mp ml.symm)
    have msum : (ms.map (·.length)).sum = (rs.map (·.length)).sum := by rw [← p3]; exact (pms.map _).sum_nat
    have hml := lot_len ms
    have hM : LotOk (lotT ms) := LotOk.of m1 m0 (by omega)
    have hjl : (TL.joinL [124] ms).length ≤ 40 := by
      have h1 := hM.len
      rw [lot_in m0, List.length_cons, List.length_append] at h1
      omega
    walk_at "z"
    refine zJoin_l (by rw [List.length_singleton]; omega) ?_
    walk_at "z"
    have em := lot_in m0
    refine ⟨by first | omega | (simp; omega), ?_⟩
    walk_at "z"
    refine ⟨by first | omega | (simp; omega), ?_⟩
    rw [← em]
    refine cutE_by (fun b d s' => b = false ∧ ∃ ls, d = .str (lotT ls) ∧ RsOk ls ∧ ls ≠ [] ∧ (lotT ls).length ≤ 40 ∧ s' = [Sl.fz (Dt.val (V.ref a)), Sl.fz Dt.dice, Sl.fz (Dt.int (i : Int)), Sl.fz (Dt.str (lotT rs)), Sl.fz (Dt.lst (List.map dPr (turnsM (lotT rs) []))), Sl.fz (Dt.int (qa : Int)), Sl.fz (Dt.int (qb : Int)), Sl.fz (Dt.str (lotT ns')), Sl.fz (Dt.lst (List.map Dt.str rs)), Sl.un, Sl.fz (Dt.str (lotT ms)), x11, x12, x13, x14]) ?_ ?_
    · walk_at "zz"
      by_cases c39 : (lotT rs).length < 39
      · rw [if_pos (decide_eq_true (by omega))]
        obtain ⟨r, rt, hrs⟩ : ∃ r rt, rs = r :: rt := by
          cases rs with
          | nil => exact absurd rfl r0
          | cons r rt => exact ⟨r, rt, rfl⟩
        have hr := r1 r (by rw [hrs]; exact List.mem_cons_self ..)
        have hrl := (rows_few r1 (by omega)).2.1 r (by rw [hrs]; exact List.mem_cons_self ..)
        walk_at "z"
        refine zIx_l (k := 0) (by rw [List.length_map, hrs]; simp) (.inl rfl) fun d hd => ?_
        obtain rfl : d = .str r := by rw [hrs] at hd; simpa using hd.symm
        walk_at "zz"
        obtain ⟨u, hu⟩ : ∃ u : Nat, (39 - ((lotT rs).length : Int)) = (u : Int) ∧ 1 ≤ u ∧ u + (lotT rs).length = 39 := ⟨39 - (lotT rs).length, by omega, by omega, by omega⟩
        rw [hu.1, cutL_to _ (by omega), Int.toNat_natCast]
        have htl : (r.take u).length ≤ u := by rw [List.length_take]; omega
        refine ⟨by omega, ?_⟩
        walk_at "z"
        refine ⟨by rw [List.length_append]; omega, ?_⟩
        walk_at "z"
        refine ⟨rs ++ [r.take u], by rw [lotT_snoc], fun x hx => ?_, by simp, by rw [lotT_snoc, List.length_append, List.length_append]; simp only [List.length_cons, List.length_nil]; omega, trivial⟩
        rcases List.mem_append.mp hx with hx | hx
        · exact r1 x hx
        · rw [List.mem_singleton.mp hx]
          refine ⟨fun z => ?_, fun c hc => hr.2 c (List.mem_of_mem_take hc)⟩
          have hz := congrArg List.length z
          rw [List.length_take] at hz
          have hp := List.length_pos_iff.mpr hr.1
          have hu1 := hu.2.1
          simp only [List.length_nil] at hz
          omega
      · rw [if_neg (by rw [decide_eq_false (by omega)]; decide)]
        walk_at "z"
        exact ⟨rs, rfl, r1, r0, hLl, trivial⟩
    rintro b d s' ⟨rfl, ls, rfl, l1, l0, l2, rfl⟩
    walk_at "z"
    refine ⟨.lst [.str [97], .str [98]], [97, 98], 9, 2, rfl, .inr rfl, by simp, by decide, by decide, by decide, by decide, by decide, by decide, fun os o1 o0 o2 o3 _ => ?_⟩
    have hol := lot_len os
    walk_at "z"
    refine ⟨4, rfl, by decide, by decide, fun q4 hq4 => ?_⟩
    obtain ⟨ts, hts, t1, t0, t2⟩ : ∃ ts : List (List Nat), ([.str (lotT ms), .str (lotT ns'), .str (lotT ls), .str (lotT os)] : List Dt)[q4]? = some (.str (lotT ts)) ∧ RsOk ts ∧ ts ≠ [] ∧ (lotT ts).length ≤ 40 := by
      have h4 : q4 = 0 ∨ q4 = 1 ∨ q4 = 2 ∨ q4 = 3 := by omega
      rcases h4 with rfl | rfl | rfl | rfl
      · exact ⟨ms, rfl, m1, m0, hM.len⟩
      · exact ⟨ns', rfl, n1, n0, hNl⟩
      · exact ⟨ls, rfl, l1, l0, l2⟩
      · exact ⟨os, rfl, o1, o0, by omega⟩
    refine zIx_lk q4 hts ?_
    have hT : LotOk (lotT ts) := LotOk.of t1 t0 t2
    walk_at "z"
    refine ⟨_, _, rfl, LotX.good hL (LotX.good hT ⟨rs, ts, rfl, rfl, r1, t1, r0, t0, ?_⟩)⟩
    walk_at "z"
    refine ⟨rs, ts, rfl, r1, t1, r0, t0, hLl, t2, ?_⟩
    obtain ⟨P1, P2⟩ := Shp.like (part_shp r1 t1)
    walk_at "z"
    refine ⟨_, rfl, P1, P2, ?_⟩
    walk_at "zz"
    refine ⟨_, rfl, by omega, by omega, fun h hh => ?_⟩
    walk_at "zz"
    refine ⟨_, rfl, by omega, by omega, fun t ht => ?_⟩
    walk_at "zz"
    refine ⟨6, rfl, by decide, by decide, fun g hg => ?_⟩
    refine zIx_l (k := g) (by simp; omega) (.inl rfl) fun d hd => ?_
    obtain ⟨e, f, rfl, ae, af, pe, pf⟩ : ∃ e f, d = .tup [e, f] ∧ argOk e ∧ argOk f ∧ plainD e = true ∧ plainD f = true := by
      have h3 : g = 0 ∨ g = 1 ∨ g = 2 ∨ g = 3 ∨ g = 4 ∨ g = 5 := by omega
      rcases h3 with rfl | rfl | rfl | rfl | rfl | rfl <;> simp at hd <;> subst hd
      · exact ⟨_, _, rfl, trivial, trivial, rfl, rfl⟩
      · exact ⟨_, _, rfl, trivial, trivial, rfl, rfl⟩
      · exact ⟨_, _, rfl, trivial, trivial, rfl, rfl⟩
      · exact ⟨_, _, rfl, trivial, trivial, rfl, rfl⟩
      · exact ⟨_, _, rfl, trivial, trivial, rfl, rfl⟩
      · exact ⟨_, _, rfl, trivial, ⟨by decide, fun c hc => by rw [List.mem_singleton.mp hc]; decide⟩, rfl, rfl⟩
    have tA : TurnArg (.tup [e, f]) := ⟨trivial, fun es h9 d hd => by
      cases h9
      rcases List.mem_cons.mp hd with rfl | hd
      · exact ae
      · rw [List.mem_singleton.mp hd]; exact af⟩
    clear hd hg
    walk_at "z"
    refine ⟨(lotT rs), e, f, rfl, by omega, ae, af, ?_⟩
    by_cases hw : whyD (lotT rs) [] (.tup [e, f]) = []
    · rw [hw]
      obtain ⟨⟨u1, u2⟩, hq, hq2⟩ := whyD_ok hw
      have hq : Dt.tup [e, f] = dPr (u1, u2) := hq.resolve_right (by intro z; cases z)
      unfold dPr at hq
      injection hq with hq
      injection hq with e1 hq
      injection hq with e2 _
      subst e1 e2
      walk_at "z"
      refine ⟨by simp [okDl, okD1, okJ, capsF, plainD, plainDs], 0, _, True, fun _ => False, rfl, fun R X hn hx => ?_, fun _ => ?_, fun x hx => hx.elim⟩
      · show ptp_0 X [.fz (.str (lotT rs)), .fz (.tup [.int u1, .int u2])] fun b d _ => R b d
        walk_at "z"
        exact ⟨_, _, _, rfl, LotX.good hL ⟨tA, fun z => absurd hw z, fun _ _ _ _ => hn trivial _ _⟩⟩
      walk_at "zz"
      rw [show (true ^^ eqD Dt.non Dt.non) = false from rfl]
      walk_at "z"
      exact ⟨_, _, _, _, _, _, _, _, _, _, _, _, _, rfl⟩
    · walk_at "z"
      refine ⟨by simp [okDl, okD1, okJ, capsF, plainD, plainDs, pe, pf], 0, _, False, fun x => x = turnXd 0 (whyD (lotT rs) [] (.tup [e, f])), rfl, fun R X hn hx => ?_, fun h => h.elim, fun x hx => ⟨.tup [.str [116, 117, 114, 110], .tup [.int ((0 : Nat) : Int), .str (whyD (lotT rs) [] (.tup [e, f]))]], by rw [hx]; exact w_turn ((0 : Nat) : Int) (whyD (lotT rs) [] (.tup [e, f])), ?_⟩⟩
      · show ptp_0 X [.fz (.str (lotT rs)), .fz (.tup [e, f])] fun b d _ => R b d
        walk_at "z"
        exact ⟨_, _, _, rfl, LotX.good hL ⟨tA, fun _ => hx _ rfl, fun q e1 e2 h9 => absurd (by rw [e1, e2]; exact h9) hw⟩⟩
      walk_at "zz"
      refine ⟨rfl, ?_⟩
      walk_at "zz"
      walk_at "nes"
      rw [decide_eq_false hw]
      walk_at "zz"
      refine zNe_same (cmp_turn (whyD_okT _ _ _)) ?_
      walk_at "z"
      exact ⟨_, _, _, _, _, _, _, _, _, _, _, _, _, rfl⟩
  · rintro s ⟨x2, x3, x4, x5, x6, x7, x8, x9, x10, x11, x12, x13, x14, rfl⟩
    walk_at "z"
def d_need_lot : He.DefD := ⟨("need_lot", none), "need_lot", "need_lot", defArgs s_need_lot, defBody s_need_lot, defScope s_need_lot, [], []⟩
def d_is_number : He.DefD := ⟨("is_number", none), "is_number", "is_number", defArgs s_is_number, defBody s_is_number, defScope s_is_number, [], []⟩
def d_why_not : He.DefD := ⟨("why_not", none), "why_not", "why_not", defArgs s_why_not, defBody s_why_not, defScope s_why_not, [], []⟩
def d_behind : He.DefD := ⟨("behind", none), "behind", "behind", defArgs s_behind, defBody s_behind, defScope s_behind, [], []⟩
def d_lot_turned : He.DefD := ⟨("lot_turned", none), "lot_turned", "lot_turned", defArgs s_lot_turned, defBody s_lot_turned, defScope s_lot_turned, [], []⟩
def d__law_dice : He.DefD := ⟨("_law_dice", none), "_law_dice", "_law_dice", defArgs s__law_dice, defBody s__law_dice, defScope s__law_dice, [], []⟩
def d__law_off : He.DefD := ⟨("_law_off", none), "_law_off", "_law_off", defArgs s__law_off, defBody s__law_off, defScope s__law_off, [], []⟩
def d__law_row : He.DefD := ⟨("_law_row", none), "_law_row", "_law_row", defArgs s__law_row, defBody s__law_row, defScope s__law_row, [], []⟩
def d__law_lot : He.DefD := ⟨("_law_lot", none), "_law_lot", "_law_lot", defArgs s__law_lot, defBody s__law_lot, defScope s__law_lot, [], []⟩
def d__law_mixed : He.DefD := ⟨("_law_mixed", none), "_law_mixed", "_law_mixed", defArgs s__law_mixed, defBody s__law_mixed, defScope s__law_mixed, [], []⟩
def d__law_signs : He.DefD := ⟨("_law_signs", none), "_law_signs", "_law_signs", defArgs s__law_signs, defBody s__law_signs, defScope s__law_signs, [], []⟩
def d__law_alike : He.DefD := ⟨("_law_alike", none), "_law_alike", "_law_alike", defArgs s__law_alike, defBody s__law_alike, defScope s__law_alike, [], []⟩
def d__law_lot_name : He.DefD := ⟨("_law_lot_name", none), "_law_lot_name", "_law_lot_name", defArgs s__law_lot_name, defBody s__law_lot_name, defScope s__law_lot_name, [], []⟩
def d_rows_in : He.DefD := ⟨("rows_in", none), "rows_in", "rows_in", defArgs s_rows_in, defBody s_rows_in, defScope s_rows_in, [], []⟩
def d_name_of_lot : He.DefD := ⟨("name_of_lot", none), "name_of_lot", "name_of_lot", defArgs s_name_of_lot, defBody s_name_of_lot, defScope s_name_of_lot, [], []⟩
def d_lot_name : He.DefD := ⟨("lot_name", none), "lot_name", "lot_name", defArgs s_lot_name, defBody s_lot_name, defScope s_lot_name, [], []⟩
def d__law_turns : He.DefD := ⟨("_law_turns", none), "_law_turns", "_law_turns", defArgs s__law_turns, defBody s__law_turns, defScope s__law_turns, [], []⟩
def d__law_turned : He.DefD := ⟨("_law_turned", none), "_law_turned", "_law_turned", defArgs s__law_turned, defBody s__law_turned, defScope s__law_turned, [], []⟩
def d__law_lot_ends : He.DefD := ⟨("_law_lot_ends", none), "_law_lot_ends", "_law_lot_ends", defArgs s__law_lot_ends, defBody s__law_lot_ends, defScope s__law_lot_ends, [], []⟩
def d__law_first : He.DefD := ⟨("_law_first", none), "_law_first", "_law_first", defArgs s__law_first, defBody s__law_first, defScope s__law_first, [], []⟩
def d__law_pairs : He.DefD := ⟨("_law_pairs", none), "_law_pairs", "_law_pairs", defArgs s__law_pairs, defBody s__law_pairs, defScope s__law_pairs, [], []⟩
def d__law_lots_parted : He.DefD := ⟨("_law_lots_parted", none), "_law_lots_parted", "_law_lots_parted", defArgs s__law_lots_parted, defBody s__law_lots_parted, defScope s__law_lots_parted, [], []⟩
def d_ends_in : He.DefD := ⟨("ends_in", none), "ends_in", "ends_in", defArgs s_ends_in, defBody s_ends_in, defScope s_ends_in, [], []⟩
def d_first_unlike : He.DefD := ⟨("first_unlike", none), "first_unlike", "first_unlike", defArgs s_first_unlike, defBody s_first_unlike, defScope s_first_unlike, [], []⟩
def d_pair_of : He.DefD := ⟨("pair_of", none), "pair_of", "pair_of", defArgs s_pair_of, defBody s_pair_of, defScope s_pair_of, [], []⟩
def d_pairs_of : He.DefD := ⟨("pairs_of", none), "pairs_of", "pairs_of", defArgs s_pairs_of, defBody s_pairs_of, defScope s_pairs_of, [], []⟩
def d_lots_parted : He.DefD := ⟨("lots_parted", none), "lots_parted", "lots_parted", defArgs s_lots_parted, defBody s_lots_parted, defScope s_lots_parted, [], []⟩
def d__law_why : He.DefD := ⟨("_law_why", none), "_law_why", "_law_why", defArgs s__law_why, defBody s__law_why, defScope s__law_why, [], []⟩
def d__law_word_of : He.DefD := ⟨("_law_word_of", none), "_law_word_of", "_law_word_of", defArgs s__law_word_of, defBody s__law_word_of, defScope s__law_word_of, [], []⟩
def d_law : He.DefD := ⟨("law", none), "law", "law", defArgs s_law, defBody s_law, defScope s_law, [], []⟩
def d_BadLot___init__ : He.DefD := ⟨("BadLot", some "__init__"), "__init__", "BadLot.__init__", defArgs s_BadLot___init__, defBody s_BadLot___init__, defScope s_BadLot___init__, [], []⟩
def d_BadTurn___init__ : He.DefD := ⟨("BadTurn", some "__init__"), "__init__", "BadTurn.__init__", defArgs s_BadTurn___init__, defBody s_BadTurn___init__, defScope s_BadTurn___init__, [], []⟩
def fnD : List He.DefD := [d_need_lot, d_is_number, d_why_not, d_behind, d_lot_turned, d__law_dice, d__law_off, d__law_row, d__law_lot, d__law_mixed, d__law_signs, d__law_alike, d__law_lot_name, d_rows_in, d_name_of_lot, d_lot_name, d__law_turns, d__law_turned, d__law_lot_ends, d__law_first, d__law_pairs, d__law_lots_parted, d_ends_in, d_first_unlike, d_pair_of, d_pairs_of, d_lots_parted, d__law_why, d__law_word_of, d_law, d_BadLot___init__, d_BadTurn___init__]
def faD : List He.Fa := [.glo "need_lot", .glo "is_number", .glo "why_not", .glo "behind", .glo "lot_turned", .glo "_law_dice", .glo "_law_off", .glo "_law_row", .glo "_law_lot", .glo "_law_mixed", .glo "_law_signs", .glo "_law_alike", .glo "_law_lot_name", .glo "rows_in", .glo "name_of_lot", .glo "lot_name", .glo "_law_turns", .glo "_law_turned", .glo "_law_lot_ends", .glo "_law_first", .glo "_law_pairs", .glo "_law_lots_parted", .glo "ends_in", .glo "first_unlike", .glo "pair_of", .glo "pairs_of", .glo "lots_parted", .glo "_law_why", .glo "_law_word_of", .glo "law", .free "ValueError", .free "abs", .free "all", .free "bool", .free "enumerate", .free "int", .free "isinstance", .free "len", .free "list", .free "min", .free "range", .free "sorted", .free "str", .free "tuple", .free "zip", .str "BAR" (S [124]), .int "MOST_SIGNS" 40, .str "SIGNS" (S [97, 98, 99, 100, 101, 102, 103, 104]), .glo "BadLot", .glo "BadTurn", .glo "TurnError", .glo "BadPins", .glo "NoRow", .glo "Unlike", .glo "TooLong", .glo "BadNumber", .glo "BadPrices", .glo "BadSide", .glo "NoPiece", .glo "BadName", .glo "NoPoint", .glo "Clash", .glo "BadRow", .glo "BadCounts", .glo "BadDeed", .glo "BadText"]
def exL : List (PySem.W.Frag → Bool) := [fun K => rnB K "BadLot" ["place"], fun K => rnB K "BadTurn" ["number", "why"], fun K => iniB K (He.ga K "TurnError"), fun K => exTabB K ["BadPins", "NoRow", "Unlike", "TooLong", "BadNumber", "BadPrices", "BadSide", "NoPiece", "BadName", "NoPoint", "Clash", "BadRow", "BadCounts", "BadLot", "BadTurn", "BadDeed", "BadText"] ["BadPins", "NoRow", "Unlike", "TooLong", "BadNumber", "BadPrices", "BadSide", "NoPiece", "BadName", "NoPoint", "Clash", "BadRow", "BadCounts", "BadLot", "BadTurn", "BadDeed", "BadText"] "TurnError"]
def exB : PySem.W.Frag → Bool := fun K => exL.all fun b => b K
def loose0 : List Str := ["TurnError", "BadPins", "Unlike", "NoRow", "TooLong", "BadNumber", "BadRow", "BadTurn", "BadCounts", "BadText", "BadPrices", "BadSide", "NoPiece", "BadName", "NoPoint", "Clash", "BadLot", "BadDeed", "SIGNS", "MOST_SIGNS", "is_number", "pair_of", "pairs_of", "why_not", "behind", "first_unlike", "BAR", "need_lot", "rows_in", "name_of_lot"]
def loose1 : List Str := ["lot_name", "lot_turned", "ends_in", "lots_parted", "_law_dice", "_law_off", "_law_row", "_law_lot", "_law_mixed", "_law_signs", "_law_alike", "_law_lot_name", "_law_turns", "_law_turned", "_law_lot_ends", "_law_first", "_law_pairs", "_law_lots_parted", "_law_why", "_law_word_of"]
def loose : List Str := loose0 ++ loose1
abbrev rowD : PySem.W.OpenRow := PySem.W.OpenLaw.row PySem.Challenge.rw_liketurns_k54_lots_named_and_turned
abbrev tfD : List He.Defn := [("law", none)]
abbrev hookHd : PySem.W.Hook := hookY 4 faD fnD tfD exB
def obHd (s : PySem.W.SharedT) : He.AlX := obsY 4 faD fnD tfD exB (HandSHeadRun.getT s)
theorem obHd_eq (s : PySem.W.SharedT) : obHd s = hookHd.obs s.abs := obsY_eq (HandSHeadRun.getT_eq s)
set_option maxHeartbeats 0 in
theorem runL (w : World) : HandSHeadRun.RunEq rowD (PySem.W.view rowD.prog [56]) hookHd obHd 6050 loose w := by
  intro os
  kernel_rfl
theorem txtL {w : World} {K : PySem.W.Frag} {h : Heap} {mg : Str → Option Value} (X : K.In h) (G : h.Ns mainGlobals mg) (cx : He.SaysX faD fnD [] tfD exB w h K) : Txt K mg := by
  have c := cx.t.d
  exact {
  z_ValueError := He.free_ok X G (c.fact 30 (f := .free "ValueError") rfl)
  z_abs := He.free_ok X G (c.fact 31 (f := .free "abs") rfl)
  z_all := He.free_ok X G (c.fact 32 (f := .free "all") rfl)
  z_bool := He.free_ok X G (c.fact 33 (f := .free "bool") rfl)
  z_enumerate := He.free_ok X G (c.fact 34 (f := .free "enumerate") rfl)
  z_int := He.free_ok X G (c.fact 35 (f := .free "int") rfl)
  z_isinstance := He.free_ok X G (c.fact 36 (f := .free "isinstance") rfl)
  z_len := He.free_ok X G (c.fact 37 (f := .free "len") rfl)
  z_list := He.free_ok X G (c.fact 38 (f := .free "list") rfl)
  z_min := He.free_ok X G (c.fact 39 (f := .free "min") rfl)
  z_range := He.free_ok X G (c.fact 40 (f := .free "range") rfl)
  z_sorted := He.free_ok X G (c.fact 41 (f := .free "sorted") rfl)
  z_str := He.free_ok X G (c.fact 42 (f := .free "str") rfl)
  z_tuple := He.free_ok X G (c.fact 43 (f := .free "tuple") rfl)
  z_zip := He.free_ok X G (c.fact 44 (f := .free "zip") rfl)
  c_BAR := by
    obtain ⟨t, e⟩ := He.str_ok X G (c.fact 45 (f := .str "BAR" (S [124])) rfl)
    exact ⟨_, e, ⟨_, rfl⟩⟩
  c_MOST_SIGNS := by
    obtain ⟨t, e⟩ := He.int_ok X G (c.fact 46 (f := .int "MOST_SIGNS" 40) rfl)
    exact ⟨_, e, ⟨_, rfl⟩⟩
  c_SIGNS := by
    obtain ⟨t, e⟩ := He.str_ok X G (c.fact 47 (f := .str "SIGNS" (S [97, 98, 99, 100, 101, 102, 103, 104])) rfl)
    exact ⟨_, e, ⟨_, rfl⟩⟩
  f_need_lot := by
    obtain ⟨fd, F⟩ := c.def_ 0 (d := d_need_lot) rfl
    exact ⟨_, fd, He.glo_ok X G (c.fact 0 (f := .glo "need_lot") rfl), F⟩
  f_is_number := by
    obtain ⟨fd, F⟩ := c.def_ 1 (d := d_is_number) rfl
    exact ⟨_, fd, He.glo_ok X G (c.fact 1 (f := .glo "is_number") rfl), F⟩
  f_why_not := by
    obtain ⟨fd, F⟩ := c.def_ 2 (d := d_why_not) rfl
    exact ⟨_, fd, He.glo_ok X G (c.fact 2 (f := .glo "why_not") rfl), F⟩
  f_behind := by
    obtain ⟨fd, F⟩ := c.def_ 3 (d := d_behind) rfl
    exact ⟨_, fd, He.glo_ok X G (c.fact 3 (f := .glo "behind") rfl), F⟩
  f_lot_turned := by
    obtain ⟨fd, F⟩ := c.def_ 4 (d := d_lot_turned) rfl
    exact ⟨_, fd, He.glo_ok X G (c.fact 4 (f := .glo "lot_turned") rfl), F⟩
  f__law_dice := by
    obtain ⟨fd, F⟩ := c.def_ 5 (d := d__law_dice) rfl
    exact ⟨_, fd, He.glo_ok X G (c.fact 5 (f := .glo "_law_dice") rfl), F⟩
  f__law_off := by
    obtain ⟨fd, F⟩ := c.def_ 6 (d := d__law_off) rfl
    exact ⟨_, fd, He.glo_ok X G (c.fact 6 (f := .glo "_law_off") rfl), F⟩
  f__law_row := by
    obtain ⟨fd, F⟩ := c.def_ 7 (d := d__law_row) rfl
    exact ⟨_, fd, He.glo_ok X G (c.fact 7 (f := .glo "_law_row") rfl), F⟩
  f__law_lot := by
    obtain ⟨fd, F⟩ := c.def_ 8 (d := d__law_lot) rfl
    exact ⟨_, fd, He.glo_ok X G (c.fact 8 (f := .glo "_law_lot") rfl), F⟩
  f__law_mixed := by
    obtain ⟨fd, F⟩ := c.def_ 9 (d := d__law_mixed) rfl
    exact ⟨_, fd, He.glo_ok X G (c.fact 9 (f := .glo "_law_mixed") rfl), F⟩
  f__law_signs := by
    obtain ⟨fd, F⟩ := c.def_ 10 (d := d__law_signs) rfl
    exact ⟨_, fd, He.glo_ok X G (c.fact 10 (f := .glo "_law_signs") rfl), F⟩
  f__law_alike := by
    obtain ⟨fd, F⟩ := c.def_ 11 (d := d__law_alike) rfl
    exact ⟨_, fd, He.glo_ok X G (c.fact 11 (f := .glo "_law_alike") rfl), F⟩
  f__law_lot_name := by
    obtain ⟨fd, F⟩ := c.def_ 12 (d := d__law_lot_name) rfl
    exact ⟨_, fd, He.glo_ok X G (c.fact 12 (f := .glo "_law_lot_name") rfl), F⟩
  f_rows_in := by
    obtain ⟨fd, F⟩ := c.def_ 13 (d := d_rows_in) rfl
    exact ⟨_, fd, He.glo_ok X G (c.fact 13 (f := .glo "rows_in") rfl), F⟩
  f_name_of_lot := by
    obtain ⟨fd, F⟩ := c.def_ 14 (d := d_name_of_lot) rfl
    exact ⟨_, fd, He.glo_ok X G (c.fact 14 (f := .glo "name_of_lot") rfl), F⟩
  f_lot_name := by
    obtain ⟨fd, F⟩ := c.def_ 15 (d := d_lot_name) rfl
    exact ⟨_, fd, He.glo_ok X G (c.fact 15 (f := .glo "lot_name") rfl), F⟩
  f__law_turns := by
    obtain ⟨fd, F⟩ := c.def_ 16 (d := d__law_turns) rfl
    exact ⟨_, fd, He.glo_ok X G (c.fact 16 (f := .glo "_law_turns") rfl), F⟩
  f__law_turned := by
    obtain ⟨fd, F⟩ := c.def_ 17 (d := d__law_turned) rfl
    exact ⟨_, fd, He.glo_ok X G (c.fact 17 (f := .glo "_law_turned") rfl), F⟩
  f__law_lot_ends := by
    obtain ⟨fd, F⟩ := c.def_ 18 (d := d__law_lot_ends) rfl
    exact ⟨_, fd, He.glo_ok X G (c.fact 18 (f := .glo "_law_lot_ends") rfl), F⟩
  f__law_first := by
    obtain ⟨fd, F⟩ := c.def_ 19 (d := d__law_first) rfl
    exact ⟨_, fd, He.glo_ok X G (c.fact 19 (f := .glo "_law_first") rfl), F⟩
  f__law_pairs := by
    obtain ⟨fd, F⟩ := c.def_ 20 (d := d__law_pairs) rfl
    exact ⟨_, fd, He.glo_ok X G (c.fact 20 (f := .glo "_law_pairs") rfl), F⟩
  f__law_lots_parted := by
    obtain ⟨fd, F⟩ := c.def_ 21 (d := d__law_lots_parted) rfl
    exact ⟨_, fd, He.glo_ok X G (c.fact 21 (f := .glo "_law_lots_parted") rfl), F⟩
  f_ends_in := by
    obtain ⟨fd, F⟩ := c.def_ 22 (d := d_ends_in) rfl
    exact ⟨_, fd, He.glo_ok X G (c.fact 22 (f := .glo "ends_in") rfl), F⟩
  f_first_unlike := by
    obtain ⟨fd, F⟩ := c.def_ 23 (d := d_first_unlike) rfl
    exact ⟨_, fd, He.glo_ok X G (c.fact 23 (f := .glo "first_unlike") rfl), F⟩
  f_pair_of := by
    obtain ⟨fd, F⟩ := c.def_ 24 (d := d_pair_of) rfl
    exact ⟨_, fd, He.glo_ok X G (c.fact 24 (f := .glo "pair_of") rfl), F⟩
  f_pairs_of := by
    obtain ⟨fd, F⟩ := c.def_ 25 (d := d_pairs_of) rfl
    exact ⟨_, fd, He.glo_ok X G (c.fact 25 (f := .glo "pairs_of") rfl), F⟩
  f_lots_parted := by
    obtain ⟨fd, F⟩ := c.def_ 26 (d := d_lots_parted) rfl
    exact ⟨_, fd, He.glo_ok X G (c.fact 26 (f := .glo "lots_parted") rfl), F⟩
  f__law_why := by
    obtain ⟨fd, F⟩ := c.def_ 27 (d := d__law_why) rfl
    exact ⟨_, fd, He.glo_ok X G (c.fact 27 (f := .glo "_law_why") rfl), F⟩
  f__law_word_of := by
    obtain ⟨fd, F⟩ := c.def_ 28 (d := d__law_word_of) rfl
    exact ⟨_, fd, He.glo_ok X G (c.fact 28 (f := .glo "_law_word_of") rfl), F⟩
  i_BadLot := by
    obtain ⟨fd, F⟩ := c.def_ 30 (d := d_BadLot___init__) rfl
    exact ⟨_, _, fd, He.glo_ok X G (c.fact 48 (f := .glo "BadLot") rfl), rnB_ok (ex_at cx.more 0), F⟩
  i_BadTurn := by
    obtain ⟨fd, F⟩ := c.def_ 31 (d := d_BadTurn___init__) rfl
    exact ⟨_, _, fd, He.glo_ok X G (c.fact 49 (f := .glo "BadTurn") rfl), rnB_ok (ex_at cx.more 1), F⟩
  t_TurnError := ⟨_, He.glo_ok X G (c.fact 50 (f := .glo "TurnError") rfl), iniB_ok (ex_at cx.more 2)⟩
  k_exc := by
    refine ⟨_, He.glo_ok X G (c.fact 50 (f := .glo "TurnError") rfl), exTabB_ok (ex_at cx.more 3) ?_⟩
    intro x hx
    simp only [List.cons_append, List.nil_append, List.mem_cons, List.not_mem_nil, or_false] at hx
    rcases hx with rfl | rfl | rfl | rfl | rfl | rfl | rfl | rfl | rfl | rfl | rfl | rfl | rfl | rfl | rfl | rfl | rfl | rfl | rfl | rfl | rfl | rfl | rfl | rfl | rfl | rfl | rfl | rfl | rfl | rfl | rfl | rfl | rfl | rfl
    · exact He.glo_ok X G (c.fact 51 (f := .glo "BadPins") rfl)
    · exact He.glo_ok X G (c.fact 52 (f := .glo "NoRow") rfl)
    · exact He.glo_ok X G (c.fact 53 (f := .glo "Unlike") rfl)
    · exact He.glo_ok X G (c.fact 54 (f := .glo "TooLong") rfl)
    · exact He.glo_ok X G (c.fact 55 (f := .glo "BadNumber") rfl)
    · exact He.glo_ok X G (c.fact 56 (f := .glo "BadPrices") rfl)
    · exact He.glo_ok X G (c.fact 57 (f := .glo "BadSide") rfl)
    · exact He.glo_ok X G (c.fact 58 (f := .glo "NoPiece") rfl)
    · exact He.glo_ok X G (c.fact 59 (f := .glo "BadName") rfl)
    · exact He.glo_ok X G (c.fact 60 (f := .glo "NoPoint") rfl)
    · exact He.glo_ok X G (c.fact 61 (f := .glo "Clash") rfl)
    · exact He.glo_ok X G (c.fact 62 (f := .glo "BadRow") rfl)
    · exact He.glo_ok X G (c.fact 63 (f := .glo "BadCounts") rfl)
    · exact He.glo_ok X G (c.fact 48 (f := .glo "BadLot") rfl)
    · exact He.glo_ok X G (c.fact 49 (f := .glo "BadTurn") rfl)
    · exact He.glo_ok X G (c.fact 64 (f := .glo "BadDeed") rfl)
    · exact He.glo_ok X G (c.fact 65 (f := .glo "BadText") rfl)
    · exact He.glo_ok X G (c.fact 51 (f := .glo "BadPins") rfl)
    · exact He.glo_ok X G (c.fact 52 (f := .glo "NoRow") rfl)
    · exact He.glo_ok X G (c.fact 53 (f := .glo "Unlike") rfl)
    · exact He.glo_ok X G (c.fact 54 (f := .glo "TooLong") rfl)
    · exact He.glo_ok X G (c.fact 55 (f := .glo "BadNumber") rfl)
    · exact He.glo_ok X G (c.fact 56 (f := .glo "BadPrices") rfl)
    · exact He.glo_ok X G (c.fact 57 (f := .glo "BadSide") rfl)
    · exact He.glo_ok X G (c.fact 58 (f := .glo "NoPiece") rfl)
    · exact He.glo_ok X G (c.fact 59 (f := .glo "BadName") rfl)
    · exact He.glo_ok X G (c.fact 60 (f := .glo "NoPoint") rfl)
    · exact He.glo_ok X G (c.fact 61 (f := .glo "Clash") rfl)
    · exact He.glo_ok X G (c.fact 62 (f := .glo "BadRow") rfl)
    · exact He.glo_ok X G (c.fact 63 (f := .glo "BadCounts") rfl)
    · exact He.glo_ok X G (c.fact 48 (f := .glo "BadLot") rfl)
    · exact He.glo_ok X G (c.fact 49 (f := .glo "BadTurn") rfl)
    · exact He.glo_ok X G (c.fact 64 (f := .glo "BadDeed") rfl)
    · exact He.glo_ok X G (c.fact 65 (f := .glo "BadText") rfl)
  g_BadPins := ⟨_, He.glo_ok X G (c.fact 51 (f := .glo "BadPins") rfl)⟩
  g_NoRow := ⟨_, He.glo_ok X G (c.fact 52 (f := .glo "NoRow") rfl)⟩
  g_Unlike := ⟨_, He.glo_ok X G (c.fact 53 (f := .glo "Unlike") rfl)⟩
  g_TooLong := ⟨_, He.glo_ok X G (c.fact 54 (f := .glo "TooLong") rfl)⟩
  g_BadNumber := ⟨_, He.glo_ok X G (c.fact 55 (f := .glo "BadNumber") rfl)⟩
  g_BadPrices := ⟨_, He.glo_ok X G (c.fact 56 (f := .glo "BadPrices") rfl)⟩
  g_BadSide := ⟨_, He.glo_ok X G (c.fact 57 (f := .glo "BadSide") rfl)⟩
  g_NoPiece := ⟨_, He.glo_ok X G (c.fact 58 (f := .glo "NoPiece") rfl)⟩
  g_BadName := ⟨_, He.glo_ok X G (c.fact 59 (f := .glo "BadName") rfl)⟩
  g_NoPoint := ⟨_, He.glo_ok X G (c.fact 60 (f := .glo "NoPoint") rfl)⟩
  g_Clash := ⟨_, He.glo_ok X G (c.fact 61 (f := .glo "Clash") rfl)⟩
  g_BadRow := ⟨_, He.glo_ok X G (c.fact 62 (f := .glo "BadRow") rfl)⟩
  g_BadCounts := ⟨_, He.glo_ok X G (c.fact 63 (f := .glo "BadCounts") rfl)⟩
  g_BadLot := ⟨_, He.glo_ok X G (c.fact 48 (f := .glo "BadLot") rfl)⟩
  g_BadTurn := ⟨_, He.glo_ok X G (c.fact 49 (f := .glo "BadTurn") rfl)⟩
  g_BadDeed := ⟨_, He.glo_ok X G (c.fact 64 (f := .glo "BadDeed") rfl)⟩
  g_BadText := ⟨_, He.glo_ok X G (c.fact 65 (f := .glo "BadText") rfl)⟩
  }
theorem factsL {w : World} {K : PySem.W.Frag} {h : Heap} {mg : Str → Option Value} {f : Addr} (X : K.In h) (G : h.Ns mainGlobals mg) (hfa : mg ("law" : Str) = some (.ref f)) (cx : He.SaysX faD fnD [] tfD exB w h K) :
    LamX.LawAtS PySem.Challenge.rw_liketurns_k54_lots_named_and_turned w K CX0 14 63 "_law_script" mg f h := by
  have c := cx.t.d
  obtain ⟨fd, F⟩ := c.def_ 29 (d := d_law) rfl
  have e := hfa.symm.trans (He.glo_ok X G (c.fact 29 (f := .glo "law") rfl))
  cases e
  have b := FunD.bindsA (ps := ["_law_script"]) F fun _ _ _ _ _ _ us hl => match us, hl with | [_], _ => rfl
  have m : (("law", none) : He.Defn) ∈ tfD := List.mem_singleton.mpr rfl
  refine ⟨fd, [He.cT K ("law", none)], sp_law K (He.cT K ("law", none)).2, fun p hp => ?_, fun p hp => ?_, fun p hp => ?_, fun s v => b s [v] rfl, fun H a ns hl _ hT hS => ⟨a, ns, rfl, hS, hl, hT _ (List.mem_singleton.mpr rfl), fun _ => rfl⟩, fun base _ _ hTB => ok_law (txtL X G cx) F (FunD.codeC (p := ("law", none)) F) (hTB _ (List.mem_singleton.mpr rfl))⟩
  · rw [List.mem_singleton.mp hp]
    exact cx.empty _ m
  · rw [List.mem_singleton.mp hp]
    exact cx.out _ m
  · rw [List.mem_singleton.mp hp]
    exact PySem.W.codeHd_of_K X (cx.hd _ m)
end Lt
open PySem PySem.W PySem.Calls PyProof.Rows
set_option maxHeartbeats 0 in
theorem PySem.Challenge.cw_liketurns_k54_lots_named_and_turned_holds : PySem.Challenge.rw_liketurns_k54_lots_named_and_turned.Holds := by
  w_on; o_law
  refine HandSHeadRun.head_any (r := OpenLaw.row PySem.Challenge.rw_liketurns_k54_lots_named_and_turned) (q := view (OpenLaw.row PySem.Challenge.rw_liketurns_k54_lots_named_and_turned).prog [56]) (H := Lt.hookHd) (ob := Lt.obHd) (M := 6050) (loose := Lt.loose) (d := HandSHeadRun.topDef (OpenLaw.row PySem.Challenge.rw_liketurns_k54_lots_named_and_turned).prog 56) (kwd := []) Lt.obHd_eq
    (by kernel_rfl) (fun s => by kernel_rfl) Lt.runL (by kernel_rfl) (by kernel_rfl) (by kernel_rfl) (by rfl) (by first | assumption | decide +kernel) (by decide +kernel) ⟨rfl, rfl, rfl, rfl, rfl, by decide +kernel⟩ ?hw ?hc
  case hw => w_witness2
  case hc =>
    refine LamX.walk_ofTsE (l := PySem.Challenge.rw_liketurns_k54_lots_named_and_turned) (n := 63) (k := 14) (x := "_law_script") (CX := fun _ => L2.CX0) rfl (by decide) (by kernel_rfl) ⟨rfl, by decide, by decide⟩ ?F (fun _ _ _ _ _ z => z)
    intro w mg fa h Y G hmg0
    obtain ⟨K, KX, c⟩ := Y
    have hmg : mg ("law" : PySem.Str) = some (.ref fa) := by
      have e : (HandSHeadRun.topDef (OpenLaw.row PySem.Challenge.rw_liketurns_k54_lots_named_and_turned).prog 56).name = ("law" : PySem.Str) := by kernel_rfl
      rw [← e]
      exact hmg0
    exact ⟨K, KX, Lt.factsL KX G hmg c⟩
