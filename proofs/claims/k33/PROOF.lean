import PyProof.Rows.All
import Wide.All
import OpenK.AllK
import Wide.FinOn
import PyProof.StrOps2
import HandS.ForMost
import HandS.Evl
import HandS.Wide
import HandS.Flow
import HandS.IsInst
import HandS.TupAny
import HandS.Zip
import HandS.Exc
import HandS.WordsExc
import HandS.Defaults
import HandS.ReplaceLit
import HandS.ReplaceDef
import HandS.ReplaceList
import HandS.EndBits
import HandS.Head0
import HandS.Head1
import HandS.Head2
import HandS.HeadEnd
import HandS.HeadHook1
import HandS.HeadHook2
import HandS.HeadHook3
import HandS.HeadHook4
import HandS.More
import HandS.Codes
import PySem.Challenge.RW_textworkshop_k33_words_of_lines
set_option Elab.async false
set_option linter.all false
set_option maxRecDepth 100000
set_option maxHeartbeats 4000000
/-! The common layer of these proofs. -/
namespace Lay
open PySem PySem.Spec PyProof.Rows L2 Evl

/-! ### defs by name -/
/-- every parameter is given -/
def BindsAll (fd : FuncData) (ps : List Str) : Prop := ∀ (s : Shared) (us : List Value), us.length = ps.length → BindsTo s fd ⟨us, []⟩ (ps.zip us)
theorem BindsAll.b {fd : FuncData} {ps : List Str} {K : PySem.W.Frag} (h : BindsAll fd ps) : Binds K fd ps [] := fun s us _ hl => by
  rw [List.append_nil] at hl ⊢
  exact h s us hl
/-- the module's def x keeps the promise sp -/
def Ok (P : Program) (w : World) (K : PySem.W.Frag) (mg : Str → Option Value) (base : Heap) (CX : CXT) (k : Nat) (x : Str) (ps : List Str) (sp : Sp) : Prop :=
  mg x = some (.ref (He.ga K x)) ∧ PySem.W.keepIn K (.ref (He.ga K x)) = true ∧ ∃ fd, FnOk P w K mg base CX k (He.ga K x) fd ps sp ∧ BindsAll fd ps ∧ ∃ oc od osl, K.lookup (He.ga K x) = some ⟨oc, od, .func fd, osl⟩
section
variable {X : Cx} {CX : CXT} {k : Nat} {ps : List Str} {sp : Sp} {E : XK} {x : Str} {p pos : Pos} {e : Expr} {es : List Expr} {t : TA}
theorem pe_callOX (G : Ok X.prog X.w X.K X.mg X.base CX k x ps sp) (hr : Room k X.A) (hx : Passes CX X E) (ha : PA X (e :: es) t) (hg : Gl X x := by rfl)
    (hdb : (x == ("__debug__" : Str)) = false := by decide) (he : starEach (e :: es) X.env = (false, eval e X.env) :: starEach es X.env := by rfl) (hpl : (backTo pos (starEach es X.env)).any (·.1) = false := by rfl) :
    PE X (.Call (.Name x p) (e :: es) [] pos) (tCall sp [] E t) := by
  obtain ⟨h1, h2, fd, h3, h4, _⟩ := G
  exact pe_call h3 hr hg h1 h2 h4.b .nil hx ha hdb he hpl
theorem pe_callO (G : Ok X.prog X.w X.K X.mg X.base CX0 k x ps sp) (hr : Room k X.A) (ha : PA X (e :: es) t) (hg : Gl X x := by rfl)
    (hdb : (x == ("__debug__" : Str)) = false := by decide) (he : starEach (e :: es) X.env = (false, eval e X.env) :: starEach es X.env := by rfl) (hpl : (backTo pos (starEach es X.env)).any (·.1) = false := by rfl) :
    PE X (.Call (.Name x p) (e :: es) [] pos) (tCall sp [] E0 t) := pe_callOX G hr pass0 ha hg hdb he hpl
theorem pe_callO0 (G : Ok X.prog X.w X.K X.mg X.base CX0 k x ps sp) (hr : Room k X.A) (hg : Gl X x := by rfl)
    (hdb : (x == ("__debug__" : Str)) = false := by decide) : PE X (.Call (.Name x p) [] [] pos) (tCall sp [] E0 tNil) := by
  obtain ⟨h1, h2, fd, h3, h4, _⟩ := G
  exact pe_call0 h3 hr hg h1 h2 h4.b .nil pass0 hdb
end
/-- a constant of the module -/
theorem pe_globC {X : Cx} {x : Str} {v : V} {pos : Pos} (h : ∃ u, X.mg x = some u ∧ RelV v u) (hg : Gl X x := by rfl) (hd : (x == ("__debug__" : Str)) = false := by decide) : PE X (.Name x pos) (tC v) := by
  obtain ⟨u, h1, h2⟩ := h
  exact pe_glob hg h1 h2 hd
/-- the def st of the top, found under its name -/
def DefAt (K : PySem.W.Frag) (mg : Str → Option Value) (x : Str) (st : Stmt) : Prop :=
  mg x = some (.ref (He.ga K x)) ∧ ∃ fd, FunD K x x (defArgs st) (defBody st) (defScope st) [] [] (He.ga K x) fd
section
variable {P : Program} {w : World} {K : PySem.W.Frag} {mg : Str → Option Value} {base : Heap} {x : Str} {st : Stmt} {N ps : List Str} {k : Nat} {sp : Sp}
theorem DefAt.ok (F : DefAt K mg x st) (S : FnScope N ps (defScope st))
    (hb : ∀ (kV doc pm : Value) (an : Option Addr) (cdv ct : Value) (us : List Value), us.length = ps.length → bindArgs (PySem.W.fnOf x x (defArgs st) (defBody st) (defScope st) .none kV doc pm an cdv ct) ⟨us, []⟩ = pure (ps.zip us))
    (len : ∀ vs H Q E, sp vs H Q E → vs.length = ps.length)
    (hbody : ∀ (cdv : Value) (A : Around) (outer : List Env) (s : Shared) (H : Hp) (vs : List V) (Q : VK) (E : XK), Room k (A.deeper (envOfC x (defScope st) s.heap.objs.size (He.ga K x) cdv)) → sp vs H Q E →
      ∃ t, PSs (cxOf CX0 P w K mg base N x (defScope st) (He.ga K x) cdv A outer s H E).nox (defBody st) t ∧ t { nx := fun _ H' => Q .non H', rt := Q } (start N vs) H) : Ok P w K mg base CX0 (k + 1) x ps sp := by
  obtain ⟨h1, fd, F⟩ := F
  refine ⟨h1, F.kp, fd, F.ok S len fun cdv A outer s H vs Q E hr hsp => ?_, fun s us hl => F.bindsA hb s us hl, ?_⟩
  rotate_left
  · obtain ⟨oc, od, dV, kV, doc, pm, an, cdv, ct, osl, e, lk, _⟩ := F.ex
    exact ⟨oc, od, osl, lk⟩
  obtain ⟨t, h, q⟩ := hbody cdv A outer s H vs Q E hr hsp
  exact ⟨t, h.nox, q⟩
/-- as DefAt.ok, a token is out when the body begins (for replace) -/
theorem DefAt.okT (F : DefAt K mg x st) (S : FnScope N ps (defScope st))
    (hb : ∀ (kV doc pm : Value) (an : Option Addr) (cdv ct : Value) (us : List Value), us.length = ps.length → bindArgs (PySem.W.fnOf x x (defArgs st) (defBody st) (defScope st) .none kV doc pm an cdv ct) ⟨us, []⟩ = pure (ps.zip us))
    (hnc : ∀ y ∈ (defScope st).names, y.2 ≠ .cell) (hps : 1 ≤ ps.length)
    (len : ∀ vs H Q E, sp vs H Q E → vs.length = ps.length)
    (hbody : ∀ (cdv : Value) (A : Around) (outer : List Env) (s : Shared) (H : Hp) (vs : List V) (Q : VK) (E : XK), Room k (A.deeper (envOfC x (defScope st) s.heap.objs.size (He.ga K x) cdv)) → sp vs H Q E →
      ∃ t, PSsT (cxOf CX0 P w K mg base N x (defScope st) (He.ga K x) cdv A outer s H E) (defBody st) t ∧ t { nx := fun _ H' => Q .non H', rt := Q } (start N vs) H) : Ok P w K mg base CX0 (k + 1) x ps sp := by
  obtain ⟨h1, fd, F⟩ := F
  have hbn : BindsAll fd ps := fun s us hl => F.bindsA hb s us hl
  obtain ⟨oc, od, dV, kV, doc, pm, an, cdv, ct, osl, rfl, lk, hcd, _, _⟩ := F.ex
  exact ⟨h1, F.kp, _, fn_ofT lk hcd S hnc hps len fun A outer s H vs Q E hr hsp => hbody cdv A outer s H vs Q E hr hsp, hbn, oc, od, osl, lk⟩
end
theorem pst_asg {X : Cx} {e : Expr} {te : TE} {x : Str} {i : Nat} {p pos : Pos} (hN : X.N.Nodup) (hi : X.N[i]? = some x) (hx : Loc X.env.scope x) (he : PET X e te) (hs : swapsWith e (some (.Name x p)) pos.line X.env = pure false := by rfl) (hf : X.fn x = true ∨ X.env.scope.names.lookup x = some .local := by first | exact .inl rfl | exact .inr rfl | assumption) :
    PST X (.Assign [.Name x p] e pos) (tAsg te (gName i)) := by
  intro pins s σ H D h0 I h
  refine wpAny_Assign_Name (thn (he pins s σ H _ h0 I h) fun v s1 ⟨y, H1, I1, r1, q1⟩ => ?_) hs
  exact store_ok I1 hN hi hx r1 (fun s2 I2 => ⟨_, H1, I2, q1⟩) hf
/-! ### a text so many times -/
def repL (l : List Nat) (n : Nat) : List Nat := (List.replicate n l).flatten
theorem fold_rep (z : Array Nat) : ∀ (n : Nat) (acc : Array Nat), ((List.replicate n z).foldl (· ++ ·) acc).toList = acc.toList ++ repL z.toList n
  | 0, acc => by simp [repL]
  | n + 1, acc => by
    rw [List.replicate_succ, List.foldl_cons, fold_rep z n]
    simp [repL, List.replicate_succ]
def repS (z : Str) (n : Int) : Str := ⟨(repL z.cps.toList n.toNat).toArray⟩
def rMulS : R2 := fun x y H Q => ∃ z n, x = .str z ∧ y = .int n ∧ (z.length ≤ 1000 ∧ -1000 ≤ n ∧ n ≤ 1000) ∧ Q (.str (repS z n)) H
theorem op_mulS {X : Cx} : OpR X (binaryOp .Mult) rMulS := by
  intro pins s σ H x y v u Q I rx ry h
  obtain ⟨z, n, rfl, rfl, ⟨h1, h2, h3⟩, q⟩ := h
  obtain ⟨t, rfl⟩ := rx
  obtain ⟨t2, rfl⟩ := ry
  have hm : z.length * n.toNat ≤ 1000 * 1000 := Nat.mul_le_mul h1 (by omega)
  refine PySem.P.mul_str ?_ ?_ ?_ ?_
  · rw [decide_eq_false (by omega), decide_eq_false (by omega)]; rfl
  · intro _ _
    have : (2 ^ 63 - 1 : Int) / 1000 ≤ (2 ^ 63 - 1) / n := by
      refine (Int.le_ediv_iff_mul_le (by omega)).mpr ?_
      have : (2 ^ 63 - 1 : Int) / 1000 * n ≤ (2 ^ 63 - 1 : Int) / 1000 * 1000 := Int.mul_le_mul_of_nonneg_left h3 (by decide)
      omega
    have : (z.length : Int) ≤ 1000 := by omega
    omega
  · intro _ _
    show decide (z.length * n.toNat > sizeLine) = false
    rw [sizeLine_eq]
    exact decide_eq_false (by omega)
  · by_cases c : n < 1
    · rw [if_pos c]
      refine ⟨by decide, .str Str.empty, H, I.tok _, ⟨_, rfl⟩, ?_⟩
      have e : repS z n = Str.empty := by
        have : n.toNat = 0 := by omega
        unfold repS
        rw [this]; rfl
      rw [← e]; exact q
    · rw [if_neg c]
      by_cases d : (n == 1 || z.length == 0) = true
      · rw [if_pos d]
        have e : repS z n = z := by
          rcases Bool.or_eq_true_iff.mp d with d | d
          · have : n = 1 := by simpa using d
            subst this
            unfold repS repL
            simp
          · have : z.length = 0 := by simpa using d
            have hz : z.cps.toList = [] := List.eq_nil_of_length_eq_zero this
            unfold repS repL
            rw [hz]
            obtain ⟨c⟩ := z
            simp at hz
            subst hz
            simp
        exact ⟨.str z, H, I, ⟨_, rfl⟩, by rw [e] at q; exact q⟩
      · rw [if_neg d]
        have e : (⟨(List.replicate n.toNat z.cps).foldl (· ++ ·) #[]⟩ : Str) = repS z n := by
          unfold repS
          congr 1
          apply Array.ext'
          rw [fold_rep]
          simp
        rw [e]
        refine ⟨?_, .str (repS z n), H, I.tok _, ⟨_, rfl⟩, q⟩
        have : (repS z n).length = n.toNat * z.length := by
          show (repL z.cps.toList n.toNat).toArray.size = _
          unfold repL
          simp
          rfl
        rw [this, Nat.mul_comm]
        exact Nat.le_trans hm (by decide)

/-! ### rules over tracked objects alone: their readings simplify -/
section
variable {X : Cx}
theorem opImp {f : Value → Value → Sem Value} {r r' : R2} (h : OpR X f r) (i : ∀ x y H Q, r' x y H Q → r x y H Q) : OpR X f r' := fun pins s σ H x y v u Q I rx ry q => h pins s σ H x y v u Q I rx ry (i _ _ _ _ q)
theorem ixImp {r r' : R2} (h : IxR X r) (i : ∀ x y H Q, r' x y H Q → r x y H Q) : IxR X r' := fun a b pins s σ H x y v u Q I rx ry q e => h a b pins s σ H x y v u Q I rx ry (i _ _ _ _ q) e
theorem callImp {f : Value} {r r' : List V → Hp → VK → Prop} (h : CallR X f r) (i : ∀ xs H Q, r' xs H Q → r xs H Q) : CallR X f r' := fun pins s σ H xs us Q I rx q => h pins s σ H xs us Q I rx (i _ _ _ q)
theorem slImp {r r' : V → Option Int → Option Int → Hp → VK → Prop} (h : SlR X r) (i : ∀ x lo hi H Q, r' x lo hi H Q → r x lo hi H Q) : SlR X r' := fun pins s σ H x v vl vu lo hi sl Q I rx a b c q => h pins s σ H x v vl vu lo hi sl Q I rx a b c (i _ _ _ _ _ q)
theorem mtImp {id : String} {r r' : V → List V → Hp → VK → Prop} (h : MtR X id r) (i : ∀ x xs H Q, r' x xs H Q → r x xs H Q) : MtR X id r' := fun pins s σ H x xs v us Q I rx rxs q => h pins s σ H x xs v us Q I rx rxs (i _ _ _ _ q)
theorem peImp {e : Expr} {t t' : TE} (h : PE X e t) (i : ∀ σ H Q, t' σ H Q → t σ H Q) : PE X e t' := ⟨fun pins s σ H Q I q => h.run pins s σ H Q I (i _ _ _ q)⟩
theorem piImp {tg e : Expr} {t t' : TI} (h : PI X tg e t) (i : ∀ σ H R, t' σ H R → t σ H R) : PI X tg e t' := ⟨fun pins s σ H R I q => h.run pins s σ H R I (i _ _ _ q)⟩
theorem pgImp {e : Expr} {t t' : TG} (h : PG X e t) (i : ∀ v σ H Q, t' v σ H Q → t v σ H Q) : PG X e t' := ⟨fun pins s σ H v u Q I r q => h.run pins s σ H v u Q I r (i _ _ _ _ q)⟩
def rIxL' : R2 := fun x y H Q => ∃ p xs i, x = .ref p ∧ y = .int i ∧ H p = some (.lst xs) ∧ ∃ v, atI xs i = some v ∧ Q v H
theorem ix_lT : IxR X rIxL' := ixImp ix_list fun _ _ _ _ ⟨p, xs, i, e1, e2, h, v, hv, q⟩ => ⟨p, xs, i, v, e1, e2, SqL.of h, hv, q⟩
def rIxT' : R2 := fun x y H Q => ∃ p xs i, x = .ref p ∧ y = .int i ∧ H p = some (.tup xs) ∧ ∃ v, atI xs i = some v ∧ Q v H
theorem ix_tT : IxR X rIxT' := ixImp ix_tup fun _ _ _ _ ⟨p, xs, i, e1, e2, h, v, hv, q⟩ => ⟨p, xs, i, v, e1, e2, SqT.of h, hv, q⟩
def rLenL' : List V → Hp → VK → Prop := fun vs H Q => ∃ p xs, vs = [.ref p] ∧ H p = some (.lst xs) ∧ Q (.int xs.length) H
theorem call_lenL : CallR X (.builtin "len") rLenL' := callImp call_len_seq fun _ _ _ ⟨p, xs, e, h, q⟩ => ⟨p, xs, e, .inl (SqL.of h), q⟩
def rLenT' : List V → Hp → VK → Prop := fun vs H Q => ∃ p xs, vs = [.ref p] ∧ H p = some (.tup xs) ∧ Q (.int xs.length) H
theorem call_lenT : CallR X (.builtin "len") rLenT' := callImp call_len_seq fun _ _ _ ⟨p, xs, e, h, q⟩ => ⟨p, xs, e, .inr (SqT.of h), q⟩
def rInt' : List V → Hp → VK → Prop := fun vs H Q => ∃ i, vs = [.int i] ∧ Q (.int i) H
theorem call_intI : CallR X (.type "int") rInt' := callImp call_int1 fun _ _ _ h => .inl h
def rListL' : List V → Hp → VK → Prop := fun vs H Q => ∃ p xs, vs = [.ref p] ∧ H p = some (.lst xs) ∧ ∀ l, H l = none → Q (.ref l) (upd H l (.lst xs))
theorem call_listL : CallR X (.type "list") rListL' := callImp call_list_of fun _ _ _ ⟨p, xs, e, h, q⟩ => ⟨p, xs, e, .inl (SqL.of h), q⟩
def rListT' : List V → Hp → VK → Prop := fun vs H Q => ∃ p xs, vs = [.ref p] ∧ H p = some (.tup xs) ∧ ∀ l, H l = none → Q (.ref l) (upd H l (.lst xs))
theorem call_listT : CallR X (.type "list") rListT' := callImp call_list_of fun _ _ _ ⟨p, xs, e, h, q⟩ => ⟨p, xs, e, .inr (SqT.of h), q⟩
def rTupL' : List V → Hp → VK → Prop := fun vs H Q => ∃ p xs, vs = [.ref p] ∧ H p = some (.lst xs) ∧ ∀ l, H l = none → Q (.ref l) (upd H l (.tup xs))
theorem call_tupL : CallR X (.type "tuple") rTupL' := callImp call_tuple_of fun _ _ _ ⟨p, xs, e, h, q⟩ => ⟨p, xs, e, .inl ⟨SqL.of h, q⟩⟩
def rInT' (neg : Bool) : R2 := fun x y H Q => ∃ p xs, y = .ref p ∧ H p = some (.tup xs) ∧ flatV x = true ∧ xs.all flatV = true ∧ Q (.bl (if neg then !inV x xs else inV x xs)) H
theorem op_inT : OpR X (compareOp .In) (rInT' false) := opImp op_in_seq fun _ _ _ _ ⟨p, xs, e, h, a, b, q⟩ => ⟨p, xs, e, .inr (SqT.of h), a, b, q⟩
theorem op_notInT : OpR X (compareOp .NotIn) (rInT' true) := opImp op_notIn_seq fun _ _ _ _ ⟨p, xs, e, h, a, b, q⟩ => ⟨p, xs, e, .inr (SqT.of h), a, b, q⟩
def rInL' (neg : Bool) : R2 := fun x y H Q => ∃ p xs, y = .ref p ∧ H p = some (.lst xs) ∧ flatV x = true ∧ xs.all flatV = true ∧ Q (.bl (if neg then !inV x xs else inV x xs)) H
theorem op_inL : OpR X (compareOp .In) (rInL' false) := opImp op_in_seq fun _ _ _ _ ⟨p, xs, e, h, a, b, q⟩ => ⟨p, xs, e, .inl (SqL.of h), a, b, q⟩
theorem op_notInL : OpR X (compareOp .NotIn) (rInL' true) := opImp op_notIn_seq fun _ _ _ _ ⟨p, xs, e, h, a, b, q⟩ => ⟨p, xs, e, .inl (SqL.of h), a, b, q⟩
def rAllT' : List V → Hp → VK → Prop := fun vs H Q => ∃ p, vs = [.ref p] ∧ ∃ bs : List Bool, H p = some (.lst (bs.map V.bl)) ∧ Q (.bl (bs.all id)) H
theorem cr_allT (hc : X.calm = true) : CallR X (.builtin "all") rAllT' := callImp (cr_all hc) fun _ _ _ ⟨p, e, bs, h, q⟩ => ⟨p, bs, e, SqL.of h, q⟩
def rSlL' : V → Option Int → Option Int → Hp → VK → Prop := fun x lo hi H Q => ∃ a xs, x = .ref a ∧ H a = some (.lst xs) ∧ ∀ p, H p = none → Q (.ref p) (upd H p (.lst (cutV xs lo hi)))
theorem sl_lT : SlR X rSlL' := slImp sl_list fun _ _ _ _ _ ⟨a, xs, e, h, q⟩ => ⟨a, xs, e, SqL.of h, q⟩
/-- loops over tracked things: the loop itself has a name -/
def iListT (K : PySem.W.Frag) (tl : TE) : TI := fun σ H R => tl σ H fun x H1 => ∃ a xs, x = .ref a ∧ H1 a = some (.lst xs) ∧ R (Itl K a) H1
def iTupT (K : PySem.W.Frag) (tl : TE) : TI := fun σ H R => tl σ H fun x H1 => ∃ a xs, x = .ref a ∧ H1 a = some (.tup xs) ∧ R (Itt K a) H1
/-- an expression's reading, its end weakened -/
def tMap (t : TE) : TE := fun σ H Q => ∃ Q0 : VK, t σ H Q0 ∧ ∀ x H1, Q0 x H1 → Q x H1
theorem pe_map {e : Expr} {t : TE} (h : PE X e t) : PE X e (tMap t) :=
  ⟨fun pins s σ H Q I ⟨Q0, a, b⟩ => thn (h.run pins s σ H Q0 I a) fun _ _ ⟨x, H1, I1, r, q⟩ => ⟨x, H1, I1, r, b x H1 q⟩⟩
theorem pi_lT {tg l : Expr} {tl : TE} (hl : PE X l tl) : PI X tg l (iListT X.K tl) :=
  piImp (pi_list (pe_map hl)) fun _ _ _ h => ⟨_, h, fun _ _ ⟨a, xs, e, hq, q⟩ => ⟨a, e, ⟨xs, SqL.of hq⟩, q⟩⟩
theorem pi_tT {tg l : Expr} {tl : TE} (hl : PE X l tl) : PI X tg l (iTupT X.K tl) :=
  piImp (pi_tup (pe_map hl)) fun _ _ _ h => ⟨_, h, fun _ _ ⟨a, xs, e, hq, q⟩ => ⟨a, e, ⟨xs, SqT.of hq⟩, q⟩⟩
def gTupT (n : Nat) (t : TGs) : TG := fun v σ H Q => ∃ a xs, v = .ref a ∧ H a = some (.tup xs) ∧ xs.length = n ∧ t xs σ H Q
theorem pg_tupT {es : List Expr} {k : Nat} {t : TGs} {n : Nat} {pos : Pos} (hc : X.calm = true) (h : PGs X es t) (hn : (assignEach es X.env).length = n := by rfl) (hst : (assignEach es X.env).findIdx? (·.1) = none := by rfl) : PG X (.Tuple es k pos) (gTupT n t) :=
  pgImp (pg_tup hc h hn hst) fun _ _ _ _ ⟨a, xs, e, h, l, q⟩ => ⟨a, xs, e, SqT.of h, l, q⟩
/-- sep.join(xs), xs a tracked list of texts -/
def tJoinL (to te : TE) : TE := fun σ H Q => to σ H fun x H1 => ∃ a, x = .str a ∧ te σ H1 fun y H2 => ∃ p, y = .ref p ∧ ∃ ys : List Str, H2 p = some (.lst (ys.map V.str)) ∧ (ys.map (·.length)).sum + ys.length * a.length ≤ 16777216 ∧ Q (.str (Txt.join a ys)) H2
theorem pe_joinL {o e : Expr} {to te : TE} {apos pos : Pos} (ho : PE X o to) (he : PE X e te) (hs : starEach [e] X.env = [(false, eval e X.env)] := by rfl) (hbase : attributeBase o "join" X.env (eval o X.env) = eval o X.env := by rfl) (hline : (apos.endLine == pos.line) = true := by rfl) :
    PE X (.Call (.Attribute o "join" apos) [e] [] pos) (tJoinL to te) :=
  peImp (pe_join (pe_map ho) (pe_map he) hs hbase hline) fun _ _ _ h => ⟨_, h, fun _ _ ⟨a, e1, h2⟩ => ⟨⟨a, e1⟩, _, h2, fun _ _ ⟨p, e2, ys, hp, hz, q⟩ => ⟨a, p, ys, e1, by rw [e2], .inl (SqL.of hp), hz, q⟩⟩⟩
/-- xs.append(e), xs a tracked list -/
def tApp (to te : TE) : TE := fun σ H Q => to σ H fun x H1 => ∃ l xs0, x = .ref l ∧ H1 l = some (.lst xs0) ∧ te σ H1 fun y H2 => ∃ xs, H2 l = some (.lst xs) ∧ xs.length < sizeLine ∧ Q .non (upd H2 l (.lst (xs ++ [y])))
theorem pe_appOf {e : Expr} {to te : TE} (h : PE X e (tBM X.K "list" rAppend (tMap to) (tCons (tMap te) tNil))) : PE X e (tApp to te) :=
  peImp h fun _ _ _ h =>
    ⟨_, h, fun _ _ ⟨l, xs0, e1, h1, h2⟩ => ⟨by rw [e1]; exact .inl ⟨rfl, _, SqL.of h1⟩, _, h2, fun _ _ ⟨xs, h3, h4, q⟩ => ⟨l, xs, _, e1, rfl, h3, h4, q⟩⟩⟩
end
/-! ### loops by name -/
/-- the rest of a for, its iterator in hand -/
def lp (J : It) (g : TG) (tb : TS) (D : Ends) (σ : L2.St) (H1 : Hp) : Prop := ∃ W : Nat → Nat → L2.St → Hp → Prop, (∃ m, W 0 m σ H1) ∧ ∀ i m σ H, W i m σ H →
  (J.stop i H ∧ D.nx σ H) ∨ (J.go i H ∧ ∃ N : L2.St → Hp → Prop, (∀ σ' H', N σ' H' → ∃ m', m' < m ∧ W (i + 1) m' σ' H') ∧ ∀ x H', J.yld i H x H' → g x σ H' fun σ2 H2 => tb { D with nx := N, ct := N, bk := D.nx } σ2 H2)
theorem tFor_eq {wi : TI} {g : TG} {tb : TS} {D : Ends} {σ : L2.St} {H : Hp} : tFor wi g tb D σ H = wi σ H fun J H1 => lp J g tb D σ H1 := rfl
/-- the rest of a list comprehension, its iterator and its new list in hand -/
def lcp (J : It) (g : TG) (tt : TT) (te : TE) (vs : List Nat) (σ : L2.St) (H1 : Hp) (D : Addr) (Q : Hp → Prop) : Prop := ∃ W : Nat → Nat → Hp → Prop, (∃ m, W 0 m (upd H1 D (.lst []))) ∧ ∀ i m H, W i m H →
  (J.stop i H ∧ Q H) ∨ (J.go i H ∧ ∃ Nx : Hp → Prop, (∀ H', Nx H' → ∃ m', m' < m ∧ W (i + 1) m' H') ∧ ∀ x H', J.yld i H x H' → g x (wipe σ vs) H' fun σ2 H2 => wipe σ2 vs = wipe σ vs ∧ tt σ2 H2 fun b H3 =>
    if b = true then te σ2 H3 fun y H4 => ∃ acc, H4 D = some (.lst acc) ∧ acc.length < sizeLine ∧ Nx (upd H4 D (.lst (acc ++ [y]))) else Nx H3)
theorem tLc_eq {wi : TI} {g : TG} {tt : TT} {te : TE} {vs : List Nat} {σ : L2.St} {H : Hp} {Q : VK} : tLc wi g tt te vs σ H Q = wi σ H fun J H1 => ∀ D, H1 D = none → lcp J g tt te vs σ H1 D (fun H => Q (.ref D) H) := rfl
/-- a loop of n turns over an iterator that goes on while G holds, and yields val i -/
structure Walks (J : It) (n : Nat) (val : Nat → V) (G : Hp → Prop) : Prop where
  go : ∀ i H, i < n → G H → J.go i H
  stop : ∀ i H, n ≤ i → G H → J.stop i H
  yld : ∀ i H x H', i < n → G H → J.yld i H x H' → H' = H ∧ x = val i
theorem lp_by {J : It} {g : TG} {tb : TS} {D : Ends} {σ : L2.St} {H : Hp} {n : Nat} {val : Nat → V} {G : Hp → Prop} (wk : Walks J n val G) (Pv : Nat → L2.St → Hp → Prop) (h0 : Pv 0 σ H) (hl : ∀ i σ H, i ≤ n → Pv i σ H → G H)
    (hs : ∀ i σ H, i < n → Pv i σ H → g (val i) σ H fun σ2 H2 => tb { D with nx := Pv (i + 1), ct := Pv (i + 1), bk := D.nx } σ2 H2) (hd : ∀ σ H, Pv n σ H → D.nx σ H) : lp J g tb D σ H := by
  refine ⟨fun i m σ H => m = n - i ∧ i ≤ n ∧ Pv i σ H, ⟨n, rfl, Nat.zero_le _, h0⟩, ?_⟩
  rintro i m σ H ⟨rfl, hi, p⟩
  by_cases c : i < n
  · refine .inr ⟨wk.go i H c (hl i σ H hi p), Pv (i + 1), fun σ' H' p' => ⟨n - (i + 1), by omega, rfl, c, p'⟩, fun x H' y => ?_⟩
    obtain ⟨e1, e2⟩ := wk.yld i H x H' c (hl i σ H hi p) y
    rw [e1, e2]
    exact hs i σ H c p
  · have e : i = n := by omega
    subst e
    exact .inl ⟨wk.stop i H (Nat.le_refl _) (hl i σ H hi p), hd σ H p⟩
theorem lcp_by {J : It} {g : TG} {tt : TT} {te : TE} {vs : List Nat} {σ : L2.St} {H1 : Hp} {D : Addr} {Q : Hp → Prop} {n : Nat} {val : Nat → V} {G : Hp → Prop} (wk : Walks J n val G) (Pv : Nat → Hp → Prop) (h0 : Pv 0 (upd H1 D (.lst []))) (hl : ∀ i H, i ≤ n → Pv i H → G H)
    (hs : ∀ i H, i < n → Pv i H → g (val i) (wipe σ vs) H fun σ2 H2 => wipe σ2 vs = wipe σ vs ∧ tt σ2 H2 fun b H3 =>
      if b = true then te σ2 H3 fun y H4 => ∃ acc, H4 D = some (.lst acc) ∧ acc.length < sizeLine ∧ Pv (i + 1) (upd H4 D (.lst (acc ++ [y]))) else Pv (i + 1) H3) (hd : ∀ H, Pv n H → Q H) : lcp J g tt te vs σ H1 D Q := by
  refine ⟨fun i m H => m = n - i ∧ i ≤ n ∧ Pv i H, ⟨n, rfl, Nat.zero_le _, h0⟩, ?_⟩
  rintro i m H ⟨rfl, hi, p⟩
  by_cases c : i < n
  · refine .inr ⟨wk.go i H c (hl i H hi p), fun H' => Pv (i + 1) H', fun H' p' => ⟨n - (i + 1), by omega, rfl, c, p'⟩, fun x H' y => ?_⟩
    obtain ⟨e1, e2⟩ := wk.yld i H x H' c (hl i H hi p) y
    rw [e1, e2]
    exact hs i H c p
  · have e : i = n := by omega
    subst e
    exact .inl ⟨wk.stop i H (Nat.le_refl _) (hl i H hi p), hd H p⟩
theorem walks_range (lo : Int) (n : Nat) : Walks (Itr lo n) n (fun i => .int (lo + i)) (fun _ => True) :=
  ⟨fun _ _ h _ => h, fun _ _ h _ => h, fun _ _ _ _ _ _ h => h⟩
theorem walks_str (x : Str) : Walks (Its x) x.cps.size (fun i => .str ⟨#[x.cps.getD i 0]⟩) (fun _ => True) :=
  ⟨fun _ _ h _ => h, fun _ _ h _ => h, fun i H v H' hi _ ⟨e, c, hc, hv⟩ => ⟨e, by rw [hv]; simp [Array.getD, hi] at hc ⊢; exact hc.symm⟩⟩
theorem walks_S (l : List Nat) : Walks (Its ⟨l.toArray⟩) l.length (fun i => .str ⟨#[l.getD i 0]⟩) (fun _ => True) :=
  ⟨fun i _ h _ => by show i < l.toArray.size; rw [List.size_toArray]; exact h, fun i _ h _ => by show l.toArray.size ≤ i; rw [List.size_toArray]; exact h, fun i H v H' hi _ ⟨e, c, hc, hv⟩ => ⟨e, by
    have hc : l.toArray[i]? = some c := hc
    rw [List.getElem?_toArray] at hc
    rw [hv]
    simp [List.getD, hc]⟩⟩
theorem walks_list {K : PySem.W.Frag} {a : Addr} (xs : List V) : Walks (Itl K a) xs.length (fun i => xs.getD i .non) (fun H => SqL K H a xs) :=
  ⟨fun i H h q => ⟨xs, xs[i], q, List.getElem?_eq_getElem h⟩, fun i H h q => ⟨xs, q, h⟩, fun i H x H' hi q ⟨e, h⟩ => ⟨e, by
    have := h xs q
    simp [List.getD, this]⟩⟩
theorem walks_tup {K : PySem.W.Frag} {a : Addr} (xs : List V) : Walks (Itt K a) xs.length (fun i => xs.getD i .non) (fun H => SqT K H a xs) :=
  ⟨fun i H h q => ⟨xs, xs[i], q, List.getElem?_eq_getElem h⟩, fun i H h q => ⟨xs, q, h⟩, fun i H x H' hi q ⟨e, h⟩ => ⟨e, by
    have := h xs q
    simp [List.getD, this]⟩⟩
theorem while_lp {c : TT} {tb : TS} {D : Ends} {σ : L2.St} {H : Hp} (Pv : Nat → L2.St → Hp → Prop) (m0 : Nat) (h0 : Pv m0 σ H)
    (hs : ∀ m σ H, Pv m σ H → c σ H fun b H1 => if b = true then tb { D with nx := fun σ' H' => ∃ m', m' < m ∧ Pv m' σ' H', ct := fun σ' H' => ∃ m', m' < m ∧ Pv m' σ' H', bk := D.nx } σ H1 else D.nx σ H1)
    (mono : ∀ σ H Q Q', (∀ b H1, Q b H1 → Q' b H1) → c σ H Q → c σ H Q') : tWhile c tb D σ H := by
  refine ⟨Pv, ⟨m0, h0⟩, fun m σ H p => mono σ H _ _ (fun b H1 q => ?_) (hs m σ H p)⟩
  cases b with
  | true => exact ⟨_, fun _ _ h => h, q⟩
  | false => exact q
/-- a test's reading, its end weakened -/
def tMapT (t : TT) : TT := fun σ H Q => ∃ Q0 : Bool → Hp → Prop, t σ H Q0 ∧ ∀ b H1, Q0 b H1 → Q b H1
theorem pt_map {X : Cx} {e : Expr} {t : TT} (h : PT X e t) : PT X e (tMapT t) :=
  ⟨fun pins s σ H Q I ⟨Q0, a, b⟩ => thn (h.run pins s σ H Q0 I a) fun _ _ ⟨H1, I1, q⟩ => ⟨H1, I1, b _ H1 q⟩⟩
theorem while_m {c : TT} {tb : TS} {D : Ends} {σ : L2.St} {H : Hp} (Pv : Nat → L2.St → Hp → Prop) (m0 : Nat) (h0 : Pv m0 σ H)
    (hs : ∀ m σ H, Pv m σ H → c σ H fun b H1 => if b = true then tb { D with nx := fun σ' H' => ∃ m', m' < m ∧ Pv m' σ' H', ct := fun σ' H' => ∃ m', m' < m ∧ Pv m' σ' H', bk := D.nx } σ H1 else D.nx σ H1) : tWhile (tMapT c) tb D σ H := by
  refine ⟨Pv, ⟨m0, h0⟩, fun m σ H p => ⟨_, hs m σ H p, fun b H1 q => ?_⟩⟩
  cases b with
  | true => exact ⟨_, fun _ _ h => h, q⟩
  | false => exact q
/-! ### dicts that are tracked -/
theorem dget_str {H : Hp} {a : Addr} {kvs : List (Key × V)} {z : Str} {r : Option V} (h : H a = some (.dK kvs)) : DGet H a (.str z) r ↔ r = valV kvs (.inr z) := by
  constructor
  · rintro (⟨kvs', k, hr, hk, e⟩ | ⟨kvs', k, b, _, hk, _⟩)
    · have e1 : kvs' = kvs := by
        rcases hr with q | ⟨o, q⟩
        · rw [h] at q; injection q with q; injection q with q; exact q.symm
        · rw [h] at q; injection q with q; cases q
      subst e1
      cases k with
      | inl i => cases hk
      | inr x => injection hk with hk; subst hk; exact e
    · cases hk
  · rintro rfl
    exact .inl ⟨kvs, .inr z, .inl h, rfl, rfl⟩
theorem dput_str {H : Hp} {a : Addr} {kvs : List (Key × V)} {z : Str} {v : V} {H' : Hp} (h : H a = some (.dK kvs)) : DPut H a (.str z) v H' ↔ kvs.length < sizeLine ∧ H' = upd H a (.dK (putK kvs (.inr z) v)) := by
  constructor
  · rintro (⟨kvs', k, q, hk, hz, e⟩ | ⟨kvs', k, b, _, hk, _⟩)
    · rw [h] at q; injection q with q; injection q with q
      subst q
      cases k with
      | inl i => cases hk
      | inr x => injection hk with hk; subst hk; exact ⟨hz, e⟩
    · cases hk
  · rintro ⟨hz, rfl⟩
    exact .inl ⟨kvs, .inr z, h, rfl, hz, rfl⟩
theorem dget_upd {H : Hp} {a : Addr} {kvs : List (Key × V)} {z : Str} {r : Option V} : DGet (upd H a (.dK kvs)) a (.str z) r ↔ r = valV kvs (.inr z) := dget_str upd_same
theorem dput_upd {H : Hp} {a : Addr} {kvs : List (Key × V)} {z : Str} {v : V} {H' : Hp} : DPut (upd H a (.dK kvs)) a (.str z) v H' ↔ kvs.length < sizeLine ∧ H' = upd H a (.dK (putK kvs (.inr z) v)) := by
  rw [dput_str upd_same, upd_upd]
theorem scal_i {i j : Int} : (scal (.int i) (.int j) = true) = True := eq_true rfl
theorem scal_s {i j : Str} : (scal (.str i) (.str j) = true) = True := eq_true rfl
theorem szl0 : (0 ≤ sizeLine) = True := eq_true (by decide)
theorem szl1 : (1 ≤ sizeLine) = True := eq_true (by decide)
theorem szl2 : (2 ≤ sizeLine) = True := eq_true (by decide)
theorem szl3 : (3 ≤ sizeLine) = True := eq_true (by decide)
theorem szl4 : (4 ≤ sizeLine) = True := eq_true (by decide)
theorem szl5 : (5 ≤ sizeLine) = True := eq_true (by decide)
theorem szl6 : (6 ≤ sizeLine) = True := eq_true (by decide)
theorem szl7 : (7 ≤ sizeLine) = True := eq_true (by decide)
theorem szl8 : (8 ≤ sizeLine) = True := eq_true (by decide)
theorem szl9 : (9 ≤ sizeLine) = True := eq_true (by decide)
theorem szl10 : (10 ≤ sizeLine) = True := eq_true (by decide)
theorem szl11 : (11 ≤ sizeLine) = True := eq_true (by decide)
theorem szl12 : (12 ≤ sizeLine) = True := eq_true (by decide)
/-! ### heaps -/
/-- a tuple and a tuple of it and another value are laid -/
theorem two_tups {H H1 : Hp} {Q : VK} {a : List V} {b : V} (e : Ex H H1) (k : ∀ t u H', Ex H H' → H' u = some (.tup a) → H' t = some (.tup [.ref u, b]) → Q (.ref t) H') :
    ∀ p, H1 p = none → ∀ q, upd H1 p (.tup a) q = none → Q (.ref q) (upd (upd H1 p (.tup a)) q (.tup [.ref p, b])) := fun p hp q hq => by
  have n : p ≠ q := fun z => by rw [← z, upd_same] at hq; cases hq
  exact k q p _ ((e.trans (Ex.new hp)).trans (Ex.new hq)) (by rw [upd_ne n, upd_same]) upd_same
/-- all but the object at p is as it was -/
def ExB (p : Addr) (H H' : Hp) : Prop := ∀ a o, a ≠ p → H a = some o → H' a = some o
theorem ExB.refl (p : Addr) (H : Hp) : ExB p H H := fun _ _ _ h => h
theorem ExB.trans {p : Addr} {H H1 H2 : Hp} (a : ExB p H H1) (b : ExB p H1 H2) : ExB p H H2 := fun x o n h => b x o n (a x o n h)
theorem ExB.of {p : Addr} {H H' : Hp} (e : Ex H H') : ExB p H H' := fun a o _ h => e a o h
theorem ExB.upd (p : Addr) (H : Hp) (o : HO) : ExB p H (upd H p o) := fun a u n h => by rw [upd_ne n]; exact h
theorem ExB.new {p q : Addr} {H : Hp} {o : HO} (h : H q = none) : ExB p H (L2.upd H q o) := .of (Ex.new h)
theorem ExB.mut {p q : Addr} {H H' : Hp} {o : HO} (e : ExB p H H') (h : H q = none) : ExB p H (L2.upd H' q o) := fun a u n ha => by
  rw [upd_ne (ne_of_none ha h)]
  exact e a u n ha
theorem Paired.app {α β : Type} {F : α → β → Prop} : ∀ {a c : List α} {b d : List β}, Paired F a b → Paired F c d → Paired F (a ++ c) (b ++ d)
  | _, _, _, _, .nil, h => h
  | _, _, _, _, .cons r t, h => .cons r (Paired.app t h)
theorem Paired.imp {α β : Type} {F G : α → β → Prop} (f : ∀ a b, F a b → G a b) : ∀ {a : List α} {b : List β}, Paired F a b → Paired G a b
  | _, _, .nil => .nil
  | _, _, .cons r t => .cons (f _ _ r) (Paired.imp f t)
/-! ### the pen -/
def pkv (l : Addr) (a d c f : Int) : List (Key × V) := [(.inr "cells", .ref l), (.inr "at", .int a), (.inr "digits", .int d), (.inr "count", .int c), (.inr "fold", .int f)]
section
variable {l : Addr} {a d c f x : Int}
theorem pkv_len : (pkv l a d c f).length = 5 := rfl
theorem pkv_cells : valV (pkv l a d c f) (.inr "cells") = some (.ref l) := rfl
theorem pkv_at : valV (pkv l a d c f) (.inr "at") = some (.int a) := rfl
theorem pkv_digits : valV (pkv l a d c f) (.inr "digits") = some (.int d) := rfl
theorem pkv_count : valV (pkv l a d c f) (.inr "count") = some (.int c) := rfl
theorem pkv_fold : valV (pkv l a d c f) (.inr "fold") = some (.int f) := rfl
theorem put_at : putK (pkv l a d c f) (.inr "at") (.int x) = pkv l x d c f := rfl
theorem put_digits : putK (pkv l a d c f) (.inr "digits") (.int x) = pkv l a x c f := rfl
theorem put_count : putK (pkv l a d c f) (.inr "count") (.int x) = pkv l a d x f := rfl
theorem put_fold : putK (pkv l a d c f) (.inr "fold") (.int x) = pkv l a d c x := rfl
end
/-- a pen stands at p, its cells at l, c draws or fewer are made -/
def Pen (H : Hp) (p l : Addr) (c : Int) : Prop := ∃ (cells : List Int) (a d n f : Int), H p = some (.dK (pkv l a d n f)) ∧ H l = some (.lst (cells.map V.int)) ∧ 0 ≤ a ∧ 0 ≤ d ∧ 0 ≤ n ∧ n ≤ c ∧ 0 ≤ f ∧ f < 2147483587
theorem Pen.ne {H : Hp} {p l q : Addr} {c : Int} (h : Pen H p l c) (n : H q = none) : q ≠ p := by
  obtain ⟨_, _, _, _, _, h, _⟩ := h
  exact (ne_of_none h n).symm
theorem Pen.nl {H : Hp} {p l q : Addr} {c : Int} (h : Pen H p l c) (n : H q = none) : q ≠ l := by
  obtain ⟨_, _, _, _, _, _, h, _⟩ := h
  exact (ne_of_none h n).symm
theorem Pen.nlst {H : Hp} {p l q : Addr} {c : Int} {xs : List V} (h : Pen H p l c) (n : H q = some (.lst xs)) : q ≠ p := by
  obtain ⟨_, _, _, _, _, h, _⟩ := h
  exact ne_of n h (by intro z; cases z)
theorem Pen.ntup {H : Hp} {p l q : Addr} {c : Int} {xs : List V} (h : Pen H p l c) (n : H q = some (.tup xs)) : q ≠ p := by
  obtain ⟨_, _, _, _, _, h, _⟩ := h
  exact ne_of n h (by intro z; cases z)
theorem Pen.mono {H : Hp} {p l : Addr} {c c' : Int} (h : Pen H p l c) (n : c ≤ c') : Pen H p l c' := by
  obtain ⟨cells, a, d, k, f, h1, h2, h3, h4, h5, h6, h7⟩ := h
  exact ⟨cells, a, d, k, f, h1, h2, h3, h4, h5, Int.le_trans h6 n, h7⟩
theorem Pen.ex {H H' : Hp} {p l : Addr} {c : Int} (h : Pen H p l c) (e : Ex H H') : Pen H' p l c := by
  obtain ⟨cells, a, d, k, f, h1, h2, h3⟩ := h
  exact ⟨cells, a, d, k, f, e _ _ h1, e _ _ h2, h3⟩
theorem Pen.upd {H : Hp} {p l D : Addr} {c : Int} {o : HO} (h : Pen H p l c) (h1 : D ≠ p) (h2 : D ≠ l) : Pen (L2.upd H D o) p l c := by
  obtain ⟨cells, a, d, k, f, e1, e2, h3⟩ := h
  exact ⟨cells, a, d, k, f, by rw [upd_ne h1.symm]; exact e1, by rw [upd_ne h2.symm]; exact e2, h3⟩
/-- a call that draws: the pen goes on, by n draws at most; all else stands -/
def Drawn (p l : Addr) (c : Int) (H H' : Hp) : Prop := ExB p H H' ∧ Pen H' p l c
theorem Drawn.mono {p l : Addr} {c c' : Int} {H H' : Hp} (d : Drawn p l c H H') (h : c ≤ c') : Drawn p l c' H H' := ⟨d.1, d.2.mono h⟩
theorem Drawn.trans {p l : Addr} {c c' : Int} {H H1 H2 : Hp} (a : Drawn p l c H H1) (b : Drawn p l c' H1 H2) : Drawn p l c' H H2 := ⟨a.1.trans b.1, b.2⟩
theorem Drawn.ex {p l : Addr} {c : Int} {H H1 H2 : Hp} (a : Drawn p l c H H1) (e : Ex H1 H2) : Drawn p l c H H2 := ⟨a.1.trans (.of e), a.2.ex e⟩
theorem Pen.drawn {H H' : Hp} {p l : Addr} {c : Int} (h : Pen H p l c) (e : Ex H H') : Drawn p l c H H' := ⟨.of e, h.ex e⟩
/-- the pen's def: any number below m -/
def spDraw : Sp := fun vs H Q _ => ∃ (p l : Addr) (m c : Int), vs = [.ref p, .int m] ∧ Pen H p l c ∧ c < 2 ^ 40 ∧ 0 < m ∧ m < 2 ^ 60 ∧ ∀ n H', 0 ≤ n → n < m → Drawn p l (c + 1) H H' → Q (.int n) H'
/-! ### tuples stay; comprehensions that draw -/
def TupEx (H H' : Hp) : Prop := ∀ a xs, H a = some (.tup xs) → H' a = some (.tup xs)
theorem TupEx.refl (H : Hp) : TupEx H H := fun _ _ h => h
theorem TupEx.trans {H H1 H2 : Hp} (a : TupEx H H1) (b : TupEx H1 H2) : TupEx H H2 := fun x o h => b x o (a x o h)
theorem TupEx.of {H H' : Hp} (e : Ex H H') : TupEx H H' := fun _ _ h => e _ _ h
theorem TupEx.lst {H : Hp} {D : Addr} {xs : List V} {o : HO} (h : H D = some (.lst xs)) : TupEx H (upd H D o) := fun a ys ha => by
  rw [upd_ne (ne_of ha h (by intro z; cases z))]
  exact ha
theorem TupEx.new {H : Hp} {D : Addr} {o : HO} (h : H D = none) : TupEx H (upd H D o) := .of (Ex.new h)
theorem Pen.tup {p l : Addr} {c : Int} {H H' : Hp} (h : Pen H p l c) (d : ExB p H H') : TupEx H H' := fun a xs ha => d a _ (h.ntup ha) ha
theorem lc_draw {J : It} {n : Nat} {val : Nat → V} (wk : Walks J n val (fun _ => True)) {p l : Addr} {c k : Int} (A : Hp → V → Prop) (mA : ∀ H H' v, TupEx H H' → A H v → A H' v) {j : Nat} {te : TE} {vs : List Nat} {σ : L2.St} {H1 : Hp} {D : Addr} {Q : Hp → Prop}
    (hn : n ≤ 100000) (hP : Pen H1 p l c) (hD : H1 D = none) (hw : ∀ i, wipe ((wipe σ vs).set j (some (val i))) vs = wipe σ vs)
    (step : ∀ (i : Nat) (H : Hp) (Q' : VK), i < n → ExB p H1 H → Pen H p l (c + i * k) → (∀ v H', A H' v → Drawn p l (c + i * k + k) H H' → Q' v H') → te ((wipe σ vs).set j (some (val i))) H Q')
    (fin : ∀ xs H', xs.length = n → (∀ x ∈ xs, A H' x) → H' D = some (.lst xs) → ExB p H1 H' → Pen H' p l (c + n * k) → Q H') : lcp J (gName j) tYes te vs σ H1 D Q := by
  have nDp := hP.ne hD
  have nDl := hP.nl hD
  refine lcp_by wk (fun i H => ∃ xs : List V, xs.length = i ∧ (∀ x ∈ xs, A H x) ∧ H D = some (.lst xs) ∧ ExB p H1 H ∧ Pen H p l (c + i * k)) ?_ (fun _ _ _ _ => trivial) ?_ ?_
  · exact ⟨[], rfl, fun x h => (nomatch h), upd_same, .new hD, (hP.upd nDp nDl).mono (by omega)⟩
  · rintro i H hi ⟨xs, e, hA, hd, ex, hp⟩
    refine ⟨hw i, ?_⟩
    show te ((wipe σ vs).set j (some (val i))) H fun y H4 => ∃ acc, H4 D = some (.lst acc) ∧ acc.length < sizeLine ∧ _
    refine step i H _ hi ex hp fun v H4 av d => ?_
    have hd4 := d.1 D _ nDp hd
    refine ⟨xs, hd4, Nat.lt_of_lt_of_le (show xs.length < 100001 by omega) (by decide), xs ++ [v], by rw [List.length_append, e]; rfl, fun x hx => ?_, upd_same, (ex.trans d.1).mut hD, (d.2.upd nDp nDl).mono (Int.le_of_eq ?_)⟩
    · have t4 : TupEx H4 (upd H4 D (.lst (xs ++ [v]))) := .lst hd4
      rcases List.mem_append.mp hx with h | h
      · exact mA _ _ _ t4 (mA _ _ _ (hp.tup d.1) (hA x h))
      · rw [List.mem_singleton.mp h]
        exact mA _ _ _ t4 av
    · rw [show ((i + 1 : Nat) : Int) = (i : Int) + 1 from rfl, Int.add_mul]
      omega
  · rintro H ⟨xs, e, hA, hd, ex, hp⟩
    exact fin xs H e hA hd ex hp
/-- len, an item: of a text, a list or a tuple -/
theorem callOr {X : Cx} {f : Value} {r r' : List V → Hp → VK → Prop} (h : CallR X f r) (h' : CallR X f r') : CallR X f (fun vs H Q => r vs H Q ∨ r' vs H Q) := fun pins s σ H xs us Q I rx q => q.elim (h pins s σ H xs us Q I rx) (h' pins s σ H xs us Q I rx)
theorem ixOr {X : Cx} {r r' : R2} (h : IxR X r) (h' : IxR X r') : IxR X (fun x y H Q => r x y H Q ∨ r' x y H Q) := fun a b pins s σ H x y v u Q I rx ry q e => q.elim (fun q => h a b pins s σ H x y v u Q I rx ry q e) (fun q => h' a b pins s σ H x y v u Q I rx ry q e)
def rLenS' : List V → Hp → VK → Prop := fun vs H Q => ∃ z : Str, vs = [.str z] ∧ z.length ≤ sizeLine ∧ Q (.int z.length) H
theorem call_lenS' {X : Cx} : CallR X (.builtin "len") rLenS' := callImp call_len_str fun _ _ _ h => h
def rLenX' : List V → Hp → VK → Prop := fun vs H Q => rLenS' vs H Q ∨ rLenL' vs H Q ∨ rLenT' vs H Q
theorem call_lenX {X : Cx} : CallR X (.builtin "len") rLenX' := callOr call_lenS' (callOr call_lenL call_lenT)
def rIxX' : R2 := fun x y H Q => rIxS x y H Q ∨ rIxL' x y H Q ∨ rIxT' x y H Q
theorem ix_X {X : Cx} : IxR X rIxX' := ixOr ix_str (ixOr ix_lT ix_tT)
/-- one of some signs, or of some values, is drawn -/
def spPick : Sp := fun vs H Q _ => ∃ (p l : Addr) (c : Int) (some_ : V), vs = [.ref p, some_] ∧ Pen H p l c ∧ c < 2 ^ 40 ∧
  ((∃ z : List Nat, some_ = .str ⟨z.toArray⟩ ∧ z ≠ [] ∧ z.length ≤ 100000 ∧ ∀ ch H', ch ∈ z → Drawn p l (c + 1) H H' → Q (.str ⟨[ch].toArray⟩) H') ∨
   (∃ a xs, some_ = .ref a ∧ (H a = some (.lst xs) ∨ H a = some (.tup xs)) ∧ xs ≠ [] ∧ xs.length ≤ 100000 ∧ ∀ x H', x ∈ xs → Drawn p l (c + 1) H H' → Q x H'))
/-! ### isinstance of plain things, by a built-in class -/
def tyO : Option HO → String
  | some (.lst _) => "list" | some (.tup _) => "tuple" | some (.dK _) => "dict" | _ => "?"
def tyN (H : Hp) : V → String
  | .non => "NoneType" | .bl _ => "bool" | .int _ => "int" | .str _ => "str"
  | .ref a => tyO (H a)
  | _ => "?"
theorem tyN_ref {H : Hp} {a : Addr} : tyN H (.ref a) = tyO (H a) := rfl
def isB (t n : String) : Bool := t == n || (t == "bool" && n == "int")
def plainTy (n : String) : Bool := ["str", "int", "bool", "list", "tuple"].contains n
theorem tyN_ok {K : PySem.W.Frag} {H : Hp} {x : V} (h : tyN H x ≠ "?") : TyX K H x (.type (tyN H x)) ∧ ["NoneType", "bool", "int", "str", "list", "tuple", "dict"].contains (tyN H x) = true := by
  cases x with
  | non => exact ⟨.base .non, rfl⟩
  | bl b => exact ⟨.base (.bl b), rfl⟩
  | int i => exact ⟨.base (.int i), rfl⟩
  | str z => exact ⟨.base (.str z), rfl⟩
  | ref a =>
    rw [tyN_ref] at h ⊢
    cases e : H a with
    | none => rw [e] at h; exact absurd rfl h
    | some o =>
      rw [e] at h
      cases o with
      | lst xs => exact ⟨.base (.lst e), rfl⟩
      | tup xs => exact ⟨.base (.tup e), rfl⟩
      | dK kvs => exact ⟨.base (.dK e), rfl⟩
      | _ => exact absurd rfl h
  | _ => exact absurd rfl h
theorem kit_all {K : PySem.W.Frag} : ∀ t ∈ ["NoneType", "bool", "int", "str", "list", "tuple", "dict"], ∀ n ∈ ["str", "int", "bool", "list", "tuple"], PySem.W.kitOne K (.type t) (.type n) = some (isB t n) := by
  have h : ∀ t ∈ ["NoneType", "bool", "int", "str", "list", "tuple", "dict"], ∀ n ∈ ["str", "int", "bool", "list", "tuple"], kitB t n = some (isB t n) := by decide +kernel
  exact fun t ht n hn => kit_ty (h t ht n hn)
def rIsB (n : String) : List V → Hp → VK → Prop := fun vs H Q => ∃ x, vs = [x, .ty n] ∧ tyN H x ≠ "?" ∧ Q (.bl (isB (tyN H x) n)) H
theorem call_isB {X : Cx} {n : String} (hn : plainTy n = true := by decide) : CallR X (.builtin "isinstance") (rIsB n) := callImp call_isi fun xs H Q ⟨x, e, h, q⟩ => by
  obtain ⟨h1, h2⟩ := tyN_ok (K := X.K) h
  exact ⟨x, .ty n, _, _, _, e, .ty n, h1, kit_all _ (List.contains_iff_mem.mp h2) _ (List.contains_iff_mem.mp hn), q⟩
/-! ### a dict of the module's top with text keys -/
structure KD (K : PySem.W.Frag) (w : World) (a : Addr) (kvs : List (Str × V)) : Prop where
  kd : ∃ es n, KDict K w a es n
  yes : ∀ z v, kvs.lookup z = some v → ∃ u, PySem.W.nsIn K a z = some (some u) ∧ RelV v u
  no : ∀ z, kvs.lookup z = none → PySem.W.nsIn K a z = some none
theorem keys_find {P : Params} {z : Str} : ∀ {l : List DictEntry} {ks : List Str}, l.map He.keyOf = He.keysIn P ks → z ∉ ks → l.find? (·.key.isStr z) = none ∧ l.any (·.refKey) = false
  | [], _, _, _ => ⟨rfl, rfl⟩
  | e :: r, [], h, _ => by cases h
  | e :: r, k :: ks, h, hz => by
    have h1 : He.keyOf e :: r.map He.keyOf = some (k, PyData.keyHash P k) :: He.keysIn P ks := h
    injection h1 with h2 h3
    obtain ⟨i1, i2⟩ := keys_find h3 fun m => hz (List.mem_cons_of_mem _ m)
    have hk : ∃ t, e.key = .str k t := by
      unfold He.keyOf at h2
      split at h2
      · rename_i x t q
        have h4 := Option.some.inj h2
        obtain ⟨h5, h6⟩ := Prod.mk.inj h4
        exact ⟨t, by rw [q, h5]⟩
      · cases h2
    obtain ⟨t, hk⟩ := hk
    have e1 : e.key.isStr z = false := by
      rw [hk]
      show (k == z) = false
      exact beq_eq_false_iff_ne.mpr fun q => hz (by rw [q]; exact List.mem_cons_self)
    have e2 : e.refKey = false := by
      unfold DictEntry.refKey
      rw [hk]
    constructor
    · rw [List.find?_cons, e1]
      exact i1
    · rw [List.any_cons, e2, i2]
      rfl
theorem KD.mk' {K : PySem.W.Frag} {w : World} {a : Addr} {kvs : List (Str × V)} {ks : List Str} (h : He.dicW K a = some (He.keysIn w.params ks)) (hk : ∀ z, kvs.lookup z = none → z ∉ ks)
    (hv : ∀ z v, kvs.lookup z = some v → ∃ u, PySem.W.nsIn K a z = some (some u) ∧ RelV v u) : KD K w a kvs := by
  refine ⟨He.dicW_ok h, hv, fun z hz => ?_⟩
  obtain ⟨es, n, D⟩ := He.dicW_ok h
  have hl := D.at_
  unfold He.dicW at h
  rw [hl] at h
  have h1 : es.toList.map He.keyOf = He.keysIn w.params ks := by
    have h2 : (match decide (("dict" : String) = "dict") && ((#[] : Array (Option Value)).isEmpty && !(a == sysModules)) with
      | true => some (es.toList.map He.keyOf)
      | false => none) = some (He.keysIn w.params ks) := h
    rw [D.low] at h2
    exact Option.some.inj h2
  obtain ⟨i1, i2⟩ := keys_find h1 (hk z hz)
  unfold PySem.W.nsIn
  rw [hl]
  show (match es.toList.find? (·.key.isStr z) with
      | some e => some (some e.val)
      | none => if es.toList.any (·.refKey) then none else some none) = some none
  rw [i1, i2]
  rfl
def rInKd (a : Addr) (kvs : List (Str × V)) (neg : Bool) : R2 := fun x y H Q => ∃ z, x = .str z ∧ y = .ref a ∧ Q (.bl (if neg then !(kvs.lookup z).isSome else (kvs.lookup z).isSome)) H
theorem op_inKd {X : Cx} {a : Addr} {kvs : List (Str × V)} (D : KD X.K X.w a kvs) : OpR X (compareOp .In) (rInKd a kvs false) := by
  obtain ⟨es, n, d⟩ := D.kd
  refine opImp (op_in_kd d) fun x y H Q ⟨z, e1, e2, q⟩ => ?_
  cases e : kvs.lookup z with
  | none =>
    rw [e] at q
    exact ⟨z, _, e1, e2, D.no z e, q⟩
  | some v =>
    rw [e] at q
    obtain ⟨u, h, _⟩ := D.yes z v e
    exact ⟨z, _, e1, e2, h, q⟩
theorem op_notInKd {X : Cx} {a : Addr} {kvs : List (Str × V)} (D : KD X.K X.w a kvs) : OpR X (compareOp .NotIn) (rInKd a kvs true) := by
  obtain ⟨es, n, d⟩ := D.kd
  refine opImp (op_notIn_kd d) fun x y H Q ⟨z, e1, e2, q⟩ => ?_
  cases e : kvs.lookup z with
  | none =>
    rw [e] at q
    exact ⟨z, _, e1, e2, D.no z e, q⟩
  | some v =>
    rw [e] at q
    obtain ⟨u, h, _⟩ := D.yes z v e
    exact ⟨z, _, e1, e2, h, q⟩
def rIxKd (a : Addr) (kvs : List (Str × V)) : R2 := fun x y H Q => ∃ z, x = .ref a ∧ y = .str z ∧ ∃ v, kvs.lookup z = some v ∧ Q v H
theorem ix_Kd {X : Cx} {a : Addr} {kvs : List (Str × V)} (D : KD X.K X.w a kvs) : IxR X (rIxKd a kvs) := by
  intro value slice pins s σ H x y v u Q I rx ry h hs
  obtain ⟨es, n, d⟩ := D.kd
  obtain ⟨z, e1, e2, v0, hv, q⟩ := h
  obtain ⟨u0, h1, h2⟩ := D.yes z v0 hv
  have rx' := rx
  rw [e1] at rx'
  cases rx'
  exact tail_any (kd_type d I) PySem.F.slot_dict_getitem.lookup (op_item_kd d pins s σ H x y _ u Q I rx ry ⟨z, u0, v0, e1, e2, h1, h2, q⟩) hs
theorem mem_of_lookupV {z : Str} {v : V} : ∀ {l : List (Str × V)}, l.lookup z = some v → (z, v) ∈ l
  | [], h => by cases h
  | (k, u) :: r, h => by
    rw [List.lookup_cons] at h
    cases e : z == k with
    | true =>
      rw [e] at h
      have e1 : z = k := eq_of_beq e
      have e2 : u = v := Option.some.inj h
      rw [e1, e2]
      exact List.mem_cons_self
    | false =>
      rw [e] at h
      exact List.mem_cons_of_mem _ (mem_of_lookupV h)
/-! ### texts by their codes -/
abbrev S (l : List Nat) : Str := ⟨l.toArray⟩
theorem S_of (z : Str) : z = S z.cps.toList := by cases z; rfl
theorem S_len (l : List Nat) : (S l).length = l.length := List.size_toArray
theorem S_inj {a b : List Nat} (h : S a = S b) : a = b := by
  have := congrArg (fun z : Str => z.cps.toList) h
  exact this
theorem S_eq {a b : List Nat} : (S a = S b) = (a = b) := propext ⟨S_inj, fun h => by rw [h]⟩
theorem S_app (a b : List Nat) : S a ++ S b = S (a ++ b) := by
  show Str.append _ _ = _
  unfold Str.append
  simp [S]
theorem S_rep (l : List Nat) (n : Int) : repS (S l) n = S (repL l n.toNat) := rfl
theorem S_cut (l : List Nat) (lo hi : Option Int) : cutS (S l) lo hi = S ((l.drop (HT.sIx l.length 0 lo)).take (HT.sIx l.length l.length hi - HT.sIx l.length 0 lo)) := by
  unfold cutS
  rw [S_len]
theorem joinL_nil : ∀ ys : List (List Nat), TL.joinL [] ys = ys.flatten
  | [] => rfl
  | [p] => by simp [TL.joinL]
  | p :: q :: r => by
    have ih := joinL_nil (q :: r)
    show p ++ ([] ++ TL.joinL [] (q :: r)) = _
    rw [ih]
    rfl
theorem join_nil (ys : List (List Nat)) : Txt.join (S []) (ys.map fun c => S c) = S ys.flatten := by
  have h := SX.join_S [] ys
  rw [joinL_nil] at h
  exact h
theorem empty_codes : (Str.ofString "") = S [] := by decide +kernel
theorem S_cps (l : List Nat) : (S l).cps.toList = l := rfl
theorem atI_eq {α : Type} {l : List α} {z : Int} {i : Nat} {c : α} (e : z = (i : Int)) (h : l[i]? = some c) : atI l z = some c := by rw [e]; exact atI_nat h
theorem at0 {α : Type} {a : α} {r : List α} : atI (a :: r) 0 = some a := atI_eq (i := 0) rfl rfl
theorem at1 {α : Type} {a b : α} {r : List α} : atI (a :: b :: r) 1 = some b := atI_eq (i := 1) rfl rfl
theorem at2 {α : Type} {a b c : α} {r : List α} : atI (a :: b :: c :: r) 2 = some c := atI_eq (i := 2) rfl rfl
theorem atI_of {α : Type} {l : List α} {i : Nat} (h : i < l.length) : atI l (i : Int) = some l[i] := atI_nat (List.getElem?_eq_getElem h)
theorem flat_ones : ∀ acc : List Nat, (acc.map fun c => [c]).flatten = acc
  | [] => rfl
  | c :: r => by
    rw [List.map_cons, List.flatten_cons, flat_ones r]
    rfl
theorem join_signs (acc : List Nat) : Txt.join (S []) (acc.map fun c => S [c]) = S acc := by
  have h := join_nil (acc.map fun c => [c])
  rw [List.map_map, flat_ones] at h
  exact h
theorem sum_signs (acc : List Nat) : ((acc.map fun c => S [c]).map (·.length)).sum = acc.length := by
  induction acc with
  | nil => rfl
  | cons c r ih =>
    rw [List.map_cons, List.map_cons, List.sum_cons, ih, List.length_cons]
    show 1 + r.length = _
    omega
theorem signs_of {Pc : Nat → Prop} : ∀ {xs : List V}, (∀ x ∈ xs, ∃ ch, x = .str (S [ch]) ∧ Pc ch) → ∃ zs : List Nat, xs = zs.map (fun c => .str (S [c])) ∧ ∀ c ∈ zs, Pc c
  | [], _ => ⟨[], rfl, fun _ h => (nomatch h)⟩
  | x :: r, h => by
    obtain ⟨ch, e, hc⟩ := h x List.mem_cons_self
    obtain ⟨zs, er, hz⟩ := signs_of (xs := r) fun y hy => h y (List.mem_cons_of_mem _ hy)
    exact ⟨ch :: zs, by rw [e, er]; rfl, fun c hm => by
      rcases List.mem_cons.mp hm with q | q
      · rw [q]; exact hc
      · exact hz c q⟩
/-- a text joined of drawn signs -/
theorem join_draw {J : It} {n : Nat} {val : Nat → V} (wk : Walks J n val (fun _ => True)) {p l : Addr} {c k : Int} (Pc : Nat → Prop) {j : Nat} {te : TE} {vs : List Nat} {σ : L2.St} {H1 : Hp} {D : Addr} {Q : VK}
    (hn : n ≤ 100000) (hP : Pen H1 p l c) (hD : H1 D = none) (hw : ∀ i, wipe ((wipe σ vs).set j (some (val i))) vs = wipe σ vs)
    (step : ∀ (i : Nat) (H : Hp) (Q' : VK), i < n → ExB p H1 H → Pen H p l (c + i * k) → (∀ ch H', Pc ch → Drawn p l (c + i * k + k) H H' → Q' (.str (S [ch])) H') → te ((wipe σ vs).set j (some (val i))) H Q')
    (fin : ∀ zs H', zs.length = n → (∀ ch ∈ zs, Pc ch) → Drawn p l (c + n * k) H1 H' → Q (.str (S zs)) H') :
    lcp J (gName j) tYes te vs σ H1 D (fun H => ∃ ys : List Str, H D = some (.lst (ys.map V.str)) ∧ (ys.map (fun x => x.length)).sum + ys.length * (Str.ofString "").length ≤ 16777216 ∧ Q (.str (Txt.join (Str.ofString "") ys)) H) := by
  refine lc_draw wk (k := k) (fun _ v => ∃ ch, v = .str (S [ch]) ∧ Pc ch) (fun _ _ _ _ h => h) hn hP hD hw (fun i H Q' hi ex hp kk => step i H Q' hi ex hp fun ch H' hc d => kk _ _ ⟨ch, rfl, hc⟩ d) fun xs H' e hA hd ex hp => ?_
  obtain ⟨zs, rfl, hz⟩ := signs_of hA
  rw [List.length_map] at e
  refine ⟨zs.map fun c => S [c], by rw [hd, List.map_map]; rfl, ?_, ?_⟩
  · rw [sum_signs, List.length_map, empty_codes]
    show zs.length + zs.length * 0 ≤ _
    omega
  · rw [empty_codes, join_signs]
    exact fin zs H' e hz ⟨ex, hp⟩
theorem join_drawP {J : It} {n : Nat} {val : Nat → V} (wk : Walks J n val (fun _ => True)) {p l : Addr} {c k : Int} (Pc : Nat → Prop) {j : Nat} {te : TE} {vs : List Nat} {σ : L2.St} {H1 : Hp} {D : Addr} {Post : List Str → Hp → Prop}
    (hn : n ≤ 100000) (hP : Pen H1 p l c) (hD : H1 D = none) (hw : ∀ i, wipe ((wipe σ vs).set j (some (val i))) vs = wipe σ vs)
    (step : ∀ (i : Nat) (H : Hp) (Q' : VK), i < n → ExB p H1 H → Pen H p l (c + i * k) → (∀ ch H', Pc ch → Drawn p l (c + i * k + k) H H' → Q' (.str (S [ch])) H') → te ((wipe σ vs).set j (some (val i))) H Q')
    (fin : ∀ (zs : List Nat) (H' : Hp), zs.length = n → (∀ ch ∈ zs, Pc ch) → Drawn p l (c + n * k) H1 H' → Post (zs.map fun c => S [c]) H') :
    lcp J (gName j) tYes te vs σ H1 D (fun H => ∃ ys : List Str, H D = some (.lst (ys.map V.str)) ∧ (ys.map (fun x => x.length)).sum + ys.length * (Str.ofString "").length ≤ 16777216 ∧ Post ys H) := by
  refine lc_draw wk (k := k) (fun _ v => ∃ ch, v = .str (S [ch]) ∧ Pc ch) (fun _ _ _ _ h => h) hn hP hD hw (fun i H Q' hi ex hp kk => step i H Q' hi ex hp fun ch H' hc d => kk _ _ ⟨ch, rfl, hc⟩ d) fun xs H' e hA hd ex hp => ?_
  obtain ⟨zs, rfl, hz⟩ := signs_of hA
  rw [List.length_map] at e
  refine ⟨zs.map fun c => S [c], by rw [hd, List.map_map]; rfl, ?_, fin zs H' e hz ⟨ex, hp⟩⟩
  rw [sum_signs, List.length_map, empty_codes]
  show zs.length + zs.length * 0 ≤ _
  omega
/-! ### data that is laid -/
def LayD (n : Nat) (d : PyData) : Prop := d.canLay0 = true ∧ d.depth ≤ n
theorem lay_all {n : Nat} : ∀ {ds : List PyData}, (∀ d ∈ ds, LayD n d) → PyData.canLayAll0 ds = true ∧ PyData.depthAll ds ≤ n
  | [], _ => ⟨rfl, Nat.zero_le _⟩
  | d :: r, h => by
    obtain ⟨h1, h2⟩ := lay_all (ds := r) fun x hx => h x (List.mem_cons_of_mem _ hx)
    obtain ⟨h3, h4⟩ := h d List.mem_cons_self
    refine ⟨?_, ?_⟩
    · show (d.canLay0 && PyData.canLayAll0 r) = true
      rw [h3, h1]
      rfl
    · show max d.depth (PyData.depthAll r) ≤ n
      omega
theorem lay_list {n : Nat} {ds : List PyData} (h : ∀ d ∈ ds, LayD n d) : LayD (n + 1) (.list ds) := ⟨(lay_all h).1, Nat.succ_le_succ (lay_all h).2⟩
theorem lay_tuple {n : Nat} {ds : List PyData} (h : ∀ d ∈ ds, LayD n d) : LayD (n + 1) (.tuple ds) := ⟨(lay_all h).1, Nat.succ_le_succ (lay_all h).2⟩
theorem lay_str {n : Nat} {s : Str} (h : PyData.strOk s = true) : LayD n (.str s) := ⟨h, Nat.zero_le _⟩
theorem strOk_S {l : List Nat} (h : ∀ c ∈ l, c < 1114112) : PyData.strOk ⟨l.toArray⟩ = true := by
  unfold PyData.strOk
  rw [List.all_toArray, List.all_eq_true]
  exact fun c hc => decide_eq_true (h c hc)
theorem lay_int {n : Nat} {s : Int} : LayD n (.int s) := ⟨rfl, Nat.zero_le _⟩
theorem lay_non {n : Nat} : LayD n .none := ⟨rfl, Nat.zero_le _⟩
theorem lay_bl {n : Nat} {b : Bool} : LayD n (.bool b) := ⟨rfl, Nat.zero_le _⟩
theorem LayD.shaped {n : Nat} {d : PyData} (h : LayD n d) (hn : n ≤ 64 := by decide) : SeqAt.shaped d = true := by
  unfold SeqAt.shaped
  rw [h.1, decide_eq_true (Nat.le_trans h.2 hn)]
  rfl
theorem LayD.eqv {n : Nat} {d : PyData} (h : LayD n d) : PyData.eqv d d = true := SeqAt.eqv_refl d h.1
theorem cutV_take (xs : List V) (k : Nat) : cutV xs none (some (k : Int)) = xs.take k := by
  unfold cutV
  rw [HT.sIx_nat, HT.sIx_none, List.drop_zero, Nat.sub_zero]
  by_cases h : k ≤ xs.length
  · rw [Nat.min_eq_left h]
  · rw [Nat.min_eq_right (by omega), List.take_length, List.take_of_length_le (by omega)]
theorem cutV_drop (xs : List V) (k : Nat) : cutV xs (some (k : Int)) none = xs.drop k := by
  unfold cutV
  rw [HT.sIx_nat, HT.sIx_none]
  by_cases h : k ≤ xs.length
  · rw [Nat.min_eq_left h]
    exact List.take_of_length_le (by rw [List.length_drop]; omega)
  · rw [Nat.min_eq_right (by omega), List.drop_length, List.drop_eq_nil_of_le (by omega)]
    simp
/-! ### a law -/
def spLaw (K : PySem.W.Frag) : Sp := fun vs H Q _ => ∃ (a : Addr) (ns : List Int), vs = [.ref a] ∧ SqL K H a (ns.map V.int) ∧ ns.length ≤ 63 ∧ ∀ H', Q (.bl true) H'
theorem law_walk {l : PySem.W.OpenLaw} {q : Program} {loose : List Str} {XP : (Str → Option Value) → Heap → Prop} {YP : World → Heap → Prop} {d : DefRec} {x : Str} {k : Nat} (hn : l.most = some 63) (hdf : d.params.defaults = []) (hr : Room k callerA)
    (F : ∀ (w : World) (mg : Str → Option Value) (h : Heap), YP w h → h.Ns mainGlobals mg → ∃ K : PySem.W.Frag, K.In h ∧ ∀ base : Heap, K.In base → base.Ns mainGlobals mg → Ok l.prog w K mg base CX0 k d.name [x] (spLaw K)) :
    PySem.W.WalkO q loose XP YP l.row.toRowW d [] (fun f vs => PySem.call f vs) := by
  refine Att.attach_call hn hdf fun w s₀ s₁ mg mb fa o pm cd doc a vs ns G Y ho hd hcd hmg hobj hints hlen hg => ?_
  obtain ⟨K, KX, F⟩ := F w mg _ Y G.T.g
  obtain ⟨e1, _, fd, f1, f2, oc, od, osl, lk⟩ := F _ KX G.T.g
  have e : fa = He.ga K d.name := by
    rw [hmg] at e1
    injection e1 with e1
    injection e1
  subst e
  refine law_call (sp := spLaw K) (fd := fd) (x := x) (CX := CX0) KX G.T.g G.T.b G.T.builtins G.T.nolimit hg hobj hints (Nat.le_trans hlen (by decide)) hr (fun base b1 b2 => ?_) (fun s u => f2 s [u] rfl) (fun H hO hS => ⟨a, ns, rfl, hS, hlen, fun _ => rfl⟩) fun H e s' z => z
  obtain ⟨_, _, fd', g1, _, oc', od', osl', lk'⟩ := F base b1 b2
  rw [lk] at lk'
  injection lk' with lk'
  injection lk' with _ _ lk'
  injection lk' with lk'
  rw [lk']
  exact g1
end Lay

namespace K33
open PySem L2 Lay
/-! The mathematics of k33: signs by their codes, what a word is, what a line's words are. -/
def isL (c : Nat) : Bool := decide (97 ≤ c) && decide (c ≤ 122)
def isD (c : Nat) : Bool := decide (48 ≤ c) && decide (c ≤ 57)
def sgn (c : Nat) : Bool := c == 10 || (decide (32 ≤ c) && decide (c ≤ 126) && c != 37)
def SIGNS_ : Str := " !\"#$&'()*+,-./0123456789:;<=>?@ABCDEFGHIJKLMNOPQRSTUVWXYZ[\\]^_`abcdefghijklmnopqrstuvwxyz{|}~"
theorem letters_codes : (Str.ofString "abcdefghijklmnopqrstuvwxyz") = S (List.range' 97 26) := by decide +kernel
theorem figures_codes : (Str.ofString "0123456789") = S (List.range' 48 10) := by decide +kernel
theorem signs_codes : SIGNS_ = S (List.range' 32 5 ++ List.range' 38 89) := by decide +kernel
theorem nl_codes : (Str.ofString "\n") = S [10] := by decide +kernel
theorem zero_codes : (Str.ofString "0") = S [48] := by decide +kernel
theorem quote_codes : (Str.ofString "\"") = S [34] := by decide +kernel
theorem back_codes : (Str.ofString "\\") = S [92] := by decide +kernel
theorem n_codes : (Str.ofString "n") = S [110] := by decide +kernel
theorem mem_L (c : Nat) : decide (c ∈ (Str.ofString "abcdefghijklmnopqrstuvwxyz").cps.toList) = isL c := by
  rw [letters_codes, S_cps]
  unfold isL
  rw [← Bool.decide_and]
  apply decide_eq_decide.mpr
  rw [List.mem_range'_1]
  omega
theorem mem_D (c : Nat) : decide (c ∈ (Str.ofString "0123456789").cps.toList) = isD c := by
  rw [figures_codes, S_cps]
  unfold isD
  rw [← Bool.decide_and]
  apply decide_eq_decide.mpr
  rw [List.mem_range'_1]
  omega
theorem mem_S (c : Nat) : (decide (c = 10) || decide (c ∈ SIGNS_.cps.toList)) = sgn c := by
  rw [signs_codes, S_cps]
  unfold sgn
  have e : decide (c ∈ List.range' 32 5 ++ List.range' 38 89) = (decide (32 ≤ c) && decide (c ≤ 126) && c != 37) := by
    have h2 : (c != 37) = decide (c ≠ 37) := by
      by_cases h : c = 37 <;> simp [h]
    rw [h2, ← Bool.decide_and, ← Bool.decide_and]
    apply decide_eq_decide.mpr
    rw [List.mem_append, List.mem_range'_1, List.mem_range'_1]
    omega
  rw [e]
  congr 1
/-- the longest row of some signs from a place -/
def runEnd (l : List Nat) (i : Nat) (p : Nat → Bool) : Nat := i + ((l.drop i).takeWhile p).length
theorem runEnd_go {l : List Nat} {i : Nat} {p : Nat → Bool} {c : Nat} (h : l[i]? = some c) (hp : p c = true) : runEnd l (i + 1) p = runEnd l i p := by
  obtain ⟨hi, e⟩ := List.getElem?_eq_some_iff.mp h
  unfold runEnd
  rw [List.drop_eq_getElem_cons hi, e, List.takeWhile_cons, if_pos hp, List.length_cons]
  omega
theorem runEnd_stop {l : List Nat} {i : Nat} {p : Nat → Bool} (h : ∀ c, l[i]? = some c → p c = false) : runEnd l i p = i := by
  unfold runEnd
  cases e : l.drop i with
  | nil => rfl
  | cons c r =>
    have h1 : l[i]? = some c := by
      have := congrArg (fun z : List Nat => z[0]?) e
      simpa using this
    rw [List.takeWhile_cons, if_neg (by rw [h c h1]; decide)]
    rfl
theorem runEnd_le {l : List Nat} {i : Nat} {p : Nat → Bool} (h : i ≤ l.length) : runEnd l i p ≤ l.length := by
  unfold runEnd
  have := (List.takeWhile_prefix p (l := l.drop i)).length_le
  rw [List.length_drop] at this
  omega
theorem runEnd_ge {l : List Nat} {i : Nat} {p : Nat → Bool} : i ≤ runEnd l i p := Nat.le_add_right _ _
theorem runEnd_gt {l : List Nat} {i : Nat} {p : Nat → Bool} {c : Nat} (h : l[i]? = some c) (hp : p c = true) : i < runEnd l i p := by
  rw [← runEnd_go h hp]
  exact runEnd_ge
theorem runEnd_all {l : List Nat} {i : Nat} {p : Nat → Bool} : ((l.drop i).take (runEnd l i p - i)).all p = true := by
  have e : runEnd l i p - i = ((l.drop i).takeWhile p).length := by unfold runEnd; omega
  rw [e]
  have h := List.prefix_iff_eq_take.mp (List.takeWhile_prefix p (l := l.drop i))
  rw [← h]
  exact List.all_takeWhile
/-- what a backslash and a sign stand for -/
def esc? (c : Nat) : Option Nat := if c = 34 then some 34 else if c = 92 then some 92 else if c = 110 then some 10 else none
/-- how the signs of a quoted word end -/
inductive QR where
  | ok (txt : List Nat) (at_ : Nat)
  | bad (at_ : Nat)
  | opn
def quo : Nat → List Nat → List Nat → QR
  | _, [], _ => .opn
  | p, c :: r, acc =>
    if c = 34 then .ok acc p
    else if c = 92 then (match r with
      | [] => .bad p
      | d :: r' => (match esc? d with
        | none => .bad p
        | some e => quo (p + 2) r' (acc ++ [e])))
    else if sgn c = true then quo (p + 1) r (acc ++ [c])
    else .bad p
def digs (l : List Nat) (i : Nat) : List Nat := (l.drop i).take (runEnd l i isD - i)
/-- the word at a place: kind, value, the place behind it -/
def wordAt (l : List Nat) (i : Nat) : Str × V × Nat :=
  let c := l.getD i 0
  if isL c = true then ("name", .str (S ((l.drop i).take (runEnd l i isL - i))), runEnd l i isL)
  else if isD c = true then
    (if c = 48 ∧ i + 1 < runEnd l i isD then ("bad number", .int (i + 2), runEnd l i isD)
    else if i + 9 < runEnd l i isD then ("bad number", .int (i + 10), runEnd l i isD)
    else ("number", .int (NumText.digitsVal (digs l i)), runEnd l i isD))
  else if c = 34 then (match quo (i + 1) (l.drop (i + 1)) [] with
    | .ok t p => ("quoted", .str (S t), p + 1)
    | .bad p => ("bad quoted", .int (p + 1), p)
    | .opn => ("bad quoted", .int (i + 1), l.length))
  else if c = 40 ∨ c = 41 then ("bracket", .str (S [c]), i + 1)
  else ("bad sign", .int (i + 1), i + 1)
theorem wordAt_quo {l : List Nat} {i : Nat} (h : l[i]? = some 34) : wordAt l i = (match quo (i + 1) (l.drop (i + 1)) [] with
    | .ok t p => ("quoted", .str (S t), p + 1)
    | .bad p => ("bad quoted", .int (p + 1), p)
    | .opn => ("bad quoted", .int (i + 1), l.length)) := by
  have e0 : l.getD i 0 = 34 := by simp [List.getD, h]
  unfold wordAt
  simp only [e0]
  rfl
def escL : List (Str × V) := [(S [34], .str (S [34])), (S [92], .str (S [92])), (S [110], .str (S [10]))]
theorem lk_cons {z k : Str} {v : V} {r : List (Str × V)} : List.lookup z ((k, v) :: r) = if z = k then some v else List.lookup z r := by
  rw [List.lookup_cons]
  by_cases h : z = k
  · rw [if_pos h, beq_iff_eq.mpr h]
  · rw [if_neg h, beq_eq_false_iff_ne.mpr h]
theorem esc_lookup (d : Nat) : List.lookup (S [d]) escL = (esc? d).map fun e => V.str (S [e]) := by
  unfold escL esc?
  rw [lk_cons, lk_cons, lk_cons]
  simp only [S_eq, List.cons.injEq, and_true]
  by_cases h1 : d = 34
  · rw [if_pos h1, if_pos h1]; rfl
  · rw [if_neg h1, if_neg h1]
    by_cases h2 : d = 92
    · rw [if_pos h2, if_pos h2]; rfl
    · rw [if_neg h2, if_neg h2]
      by_cases h3 : d = 110
      · rw [if_pos h3, if_pos h3]; rfl
      · rw [if_neg h3, if_neg h3]; rfl
theorem esc_nil : List.lookup (S []) escL = none := by decide +kernel
theorem next_sign (l : List Nat) (j : Nat) : List.take (HT.sIx l.length l.length (some ((j : Int) + 2)) - HT.sIx l.length 0 (some ((j : Int) + 1))) (List.drop (HT.sIx l.length 0 (some ((j : Int) + 1))) l) = (l.drop (j + 1)).take 1 := by
  have e1 : ((j : Int) + 2) = ((j + 2 : Nat) : Int) := by omega
  have e2 : ((j : Int) + 1) = ((j + 1 : Nat) : Int) := by omega
  rw [e1, e2, HT.sIx_nat, HT.sIx_nat]
  by_cases h : j + 2 ≤ l.length
  · rw [Nat.min_eq_left h, Nat.min_eq_left (by omega)]
    congr 1
    omega
  · have : l.length ≤ j + 1 := by omega
    rw [Nat.min_eq_right (by omega), Nat.min_eq_right this, List.drop_eq_nil_of_le (Nat.le_refl _), List.drop_eq_nil_of_le this]
    simp
theorem mem_L' (c : Nat) : (c ∈ (Str.ofString "abcdefghijklmnopqrstuvwxyz").cps.toList) = (isL c = true) := by
  rw [← mem_L, decide_eq_true_eq]
theorem mem_D' (c : Nat) : (c ∈ (Str.ofString "0123456789").cps.toList) = (isD c = true) := by
  rw [← mem_D, decide_eq_true_eq]
theorem brackets_codes : (Str.ofString "()") = S [40, 41] := by decide +kernel
theorem blank_codes : (Str.ofString " ") = S [32] := by decide +kernel
def isB (c : Nat) : Bool := c == 32
def badK (k : Str) : Bool := Txt.startswith k (Str.ofString "bad ")
/-- the words of a line from a place on, at which no blank stands -/
inductive Lexes (l : List Nat) : Nat → List (Str × V × Nat) → Prop where
  | done : Lexes l l.length []
  | bad {i : Nat} (h : i < l.length) (hb : badK (wordAt l i).1 = true) : Lexes l i [((wordAt l i).1, (wordAt l i).2.1, i)]
  | more {i : Nat} {ws : List (Str × V × Nat)} (h : i < l.length) (hb : badK (wordAt l i).1 = false) (he : (wordAt l i).2.2 ≤ l.length) (hr : Lexes l (runEnd l (wordAt l i).2.2 isB) ws) : Lexes l i (((wordAt l i).1, (wordAt l i).2.1, i) :: ws)
def tok (H : Hp) (r : V) (t : Str × V × Nat) : Prop := ∃ a, r = .ref a ∧ H a = some (.tup [.str t.1, t.2.1, .int ((t.2.2 : Int) + 1)])
theorem tok_upd {H : Hp} {F : Addr} {xs : List V} {o : HO} {r : V} {q : Str × V × Nat} (hf : H F = some (.lst xs)) (h : tok H r q) : tok (upd H F o) r q := by
  obtain ⟨a, e, ha⟩ := h
  exact ⟨a, e, by rw [upd_ne (ne_of ha hf (by intro z; cases z))]; exact ha⟩
theorem tok_ex {H H' : Hp} {r : V} {q : Str × V × Nat} (e : Evl.Ex H H') (h : tok H r q) : tok H' r q := by
  obtain ⟨a, e1, ha⟩ := h
  exact ⟨a, e1, e _ _ ha⟩
theorem isB_mem (d : Nat) : decide (d ∈ [32]) = isB d := by
  unfold isB
  by_cases h : d = 32 <;> simp [h]
/-! ### quoting -/
def escape (c : Nat) : List Nat := if c = 92 then [92, 92] else if c = 34 then [92, 34] else if c = 10 then [92, 110] else [c]
def rep1 (y : Nat) (z : List Nat) (l : List Nat) : List Nat := l.flatMap fun c => if c = y then z else [c]
theorem replL_one (y : Nat) (z : List Nat) : ∀ l : List Nat, PySem.StrLaws.replL [y] z l = rep1 y z l
  | [] => rfl
  | c :: r => by
    have ih := replL_one y z r
    by_cases h : c = y
    · rw [PySem.StrLaws.replL_hit (by simp) (by simp [h]), show (c :: r).drop [y].length = r from rfl, ih]
      simp [rep1, h]
    · rw [PySem.StrLaws.replL_miss (by simp [h]), ih]
      simp [rep1, h]
theorem replace_one (l : List Nat) (y : Nat) (z : List Nat) : Txt.replace (S l) (S [y]) (S z) = S (rep1 y z l) := by
  apply TL.ext_tl
  have h := PySem.StrLaws.replace_list (x := S l) (y := S [y]) (z := S z) (Nat.le_refl 1)
  rw [S_cps, S_cps, S_cps, replL_one] at h
  exact h
theorem rep1_len (y : Nat) (z l : List Nat) (h : z.length = 2) : (rep1 y z l).length ≤ 2 * l.length := by
  induction l with
  | nil => exact Nat.le_refl _
  | cons c r ih =>
    have e : rep1 y z (c :: r) = (if c = y then z else [c]) ++ rep1 y z r := rfl
    rw [e, List.length_append, List.length_cons]
    by_cases h1 : c = y
    · rw [if_pos h1]; omega
    · rw [if_neg h1, List.length_singleton]; omega
theorem three (l : List Nat) : rep1 10 [92, 110] (rep1 34 [92, 34] (rep1 92 [92, 92] l)) = l.flatMap escape := by
  induction l with
  | nil => rfl
  | cons c r ih =>
    have e : ∀ y z, rep1 y z (c :: r) = (if c = y then z else [c]) ++ rep1 y z r := fun _ _ => rfl
    have ea : ∀ y z a b, rep1 y z (a ++ b) = rep1 y z a ++ rep1 y z b := fun y z a b => by simp [rep1]
    rw [e, ea, ea, ih, List.flatMap_cons]
    congr 1
    unfold escape
    by_cases h1 : c = 92
    · simp [h1, rep1]
    · rw [if_neg h1, if_neg h1]
      by_cases h2 : c = 34
      · simp [h2, rep1]
      · rw [if_neg h2]
        by_cases h3 : c = 10
        · simp [h3, rep1]
        · rw [if_neg h3]
          simp [rep1, h2, h3]
def quoted (l : List Nat) : List Nat := 34 :: l.flatMap escape ++ [34]
theorem bb_codes : (Str.ofString "\\\\") = S [92, 92] := by decide +kernel
theorem bq_codes : (Str.ofString "\\\"") = S [92, 34] := by decide +kernel
theorem bn_codes : (Str.ofString "\\n") = S [92, 110] := by decide +kernel
def allS : List Nat := List.range' 32 2 ++ List.range' 35 2 ++ List.range' 38 89
theorem allS_sgn {c : Nat} (h : c ∈ allS) : sgn c = true := by
  unfold allS at h
  rw [List.mem_append, List.mem_append, List.mem_range'_1, List.mem_range'_1, List.mem_range'_1] at h
  unfold sgn
  have h1 : 32 ≤ c ∧ c ≤ 126 ∧ c ≠ 37 := by omega
  simp [h1.1, h1.2.1, h1.2.2]
end K33

namespace K33
open PySem PySem.Spec PyProof.Rows L2 Evl Lay
def top (i : Nat) : Stmt := PySem.Challenge.pw_textworkshop_k33_words_of_lines.main.body.getD i (.Pass ⟨0, 0, 0, 0⟩)
abbrev s_is_sign : Stmt := top 2
abbrev N_is_sign : List Str := ["value"]
theorem sc_is_sign : FnScope N_is_sign ["value"] (defScope s_is_sign) := ⟨rfl, rfl, rfl, by decide +kernel, rfl, by decide +kernel, by decide +kernel⟩
abbrev s_is_text : Stmt := top 3
abbrev N_is_text : List Str := ["value", "sign"]
theorem sc_is_text : FnScope N_is_text ["value"] (defScope s_is_text) := ⟨rfl, rfl, rfl, by decide +kernel, rfl, by decide +kernel, by decide +kernel⟩
abbrev s_run_end : Stmt := top 9
abbrev N_run_end : List Str := ["line", "start", "signs", "at"]
theorem sc_run_end : FnScope N_run_end ["line", "start", "signs"] (defScope s_run_end) := ⟨rfl, rfl, rfl, by decide +kernel, rfl, by decide +kernel, by decide +kernel⟩
abbrev s_number_word : Stmt := top 10
abbrev N_number_word : List Str := ["line", "start", "end"]
theorem sc_number_word : FnScope N_number_word ["line", "start"] (defScope s_number_word) := ⟨rfl, rfl, rfl, by decide +kernel, rfl, by decide +kernel, by decide +kernel⟩
abbrev s_quoted_word : Stmt := top 11
abbrev N_quoted_word : List Str := ["line", "start", "found", "at"]
theorem sc_quoted_word : FnScope N_quoted_word ["line", "start"] (defScope s_quoted_word) := ⟨rfl, rfl, rfl, by decide +kernel, rfl, by decide +kernel, by decide +kernel⟩
abbrev s_word_at : Stmt := top 12
abbrev N_word_at : List Str := ["line", "start", "sign", "end"]
theorem sc_word_at : FnScope N_word_at ["line", "start"] (defScope s_word_at) := ⟨rfl, rfl, rfl, by decide +kernel, rfl, by decide +kernel, by decide +kernel⟩
abbrev s_line_words : Stmt := top 13
abbrev N_line_words : List Str := ["line", "found", "at", "word"]
theorem sc_line_words : FnScope N_line_words ["line"] (defScope s_line_words) := ⟨rfl, rfl, rfl, by decide +kernel, rfl, by decide +kernel, by decide +kernel⟩
abbrev s_quoted_text : Stmt := top 14
abbrev N_quoted_text : List Str := ["word", "text"]
theorem sc_quoted_text : FnScope N_quoted_text ["word"] (defScope s_quoted_text) := ⟨rfl, rfl, rfl, by decide +kernel, rfl, by decide +kernel, by decide +kernel⟩
abbrev s_Lpen : Stmt := top 16
abbrev N_Lpen : List Str := ["_law_script", "_law_fold", "_law_cell"]
theorem sc_Lpen : FnScope N_Lpen ["_law_script"] (defScope s_Lpen) := ⟨rfl, rfl, rfl, by decide +kernel, rfl, by decide +kernel, by decide +kernel⟩
abbrev s_Ldraw : Stmt := top 17
abbrev N_Ldraw : List Str := ["_law_pen_here", "_law_many", "_law_cell", "_law_digit", "_law_mixed"]
theorem sc_Ldraw : FnScope N_Ldraw ["_law_pen_here", "_law_many"] (defScope s_Ldraw) := ⟨rfl, rfl, rfl, by decide +kernel, rfl, by decide +kernel, by decide +kernel⟩
abbrev s_Lpick : Stmt := top 18
abbrev N_Lpick : List Str := ["_law_pen_here", "_law_some"]
theorem sc_Lpick : FnScope N_Lpick ["_law_pen_here", "_law_some"] (defScope s_Lpick) := ⟨rfl, rfl, rfl, by decide +kernel, rfl, by decide +kernel, by decide +kernel⟩
abbrev s_Lquoted : Stmt := top 19
abbrev N_Lquoted : List Str := ["_law_word"]
theorem sc_Lquoted : FnScope N_Lquoted ["_law_word"] (defScope s_Lquoted) := ⟨rfl, rfl, rfl, by decide +kernel, rfl, by decide +kernel, by decide +kernel⟩
abbrev s_Lall_signs : Stmt := top 20
abbrev N_Lall_signs : List Str := []
theorem sc_Lall_signs : FnScope N_Lall_signs [] (defScope s_Lall_signs) := ⟨rfl, rfl, rfl, by decide +kernel, rfl, by decide +kernel, by decide +kernel⟩
abbrev s_Lany_sign : Stmt := top 21
abbrev N_Lany_sign : List Str := ["_law_pen_here", "_law_line", "_law_way"]
theorem sc_Lany_sign : FnScope N_Lany_sign ["_law_pen_here", "_law_line"] (defScope s_Lany_sign) := ⟨rfl, rfl, rfl, by decide +kernel, rfl, by decide +kernel, by decide +kernel⟩
abbrev s_Lany_word : Stmt := top 22
abbrev N_Lany_word : List Str := ["_law_pen_here", "_law_least", "_law_most", "_law_line", "_law_k"]
theorem sc_Lany_word : FnScope N_Lany_word ["_law_pen_here", "_law_least", "_law_most", "_law_line"] (defScope s_Lany_word) := ⟨rfl, rfl, rfl, by decide +kernel, rfl, by decide +kernel, by decide +kernel⟩
abbrev s_Lany_name : Stmt := top 23
abbrev N_Lany_name : List Str := ["_law_pen_here", "_law_k"]
theorem sc_Lany_name : FnScope N_Lany_name ["_law_pen_here"] (defScope s_Lany_name) := ⟨rfl, rfl, rfl, by decide +kernel, rfl, by decide +kernel, by decide +kernel⟩
abbrev s_Lline_of_words : Stmt := top 24
abbrev N_Lline_of_words : List Str := ["_law_pen_here", "_law_words", "_law_letters", "_law_figures", "_law_line", "_law_columns", "_law_k", "_law_least", "_law_some"]
theorem sc_Lline_of_words : FnScope N_Lline_of_words ["_law_pen_here", "_law_words"] (defScope s_Lline_of_words) := ⟨rfl, rfl, rfl, by decide +kernel, rfl, by decide +kernel, by decide +kernel⟩
abbrev s_Lright_word : Stmt := top 25
abbrev N_Lright_word : List Str := ["_law_pen_here", "_law_way", "_law_name", "_law_number", "_law_text", "_law_sign"]
theorem sc_Lright_word : FnScope N_Lright_word ["_law_pen_here"] (defScope s_Lright_word) := ⟨rfl, rfl, rfl, by decide +kernel, rfl, by decide +kernel, by decide +kernel⟩
abbrev s_Lwrong_word : Stmt := top 26
abbrev N_Lwrong_word : List Str := ["_law_pen_here", "_law_way", "_law_ahead", "_law_plain", "_law_k"]
theorem sc_Lwrong_word : FnScope N_Lwrong_word ["_law_pen_here"] (defScope s_Lwrong_word) := ⟨rfl, rfl, rfl, by decide +kernel, rfl, by decide +kernel, by decide +kernel⟩
abbrev s_law : Stmt := top 27
abbrev N_law : List Str := ["_law_script", "_law_pen_here", "_law_words", "_law_k", "_law_wrong", "_law_spot", "_law_ends", "_law_line", "_law_columns", "_law_word", "_law_due", "_law_column", "_law_bad", "_law_found", "_law_text"]
theorem sc_law : FnScope N_law ["_law_script"] (defScope s_law) := ⟨rfl, rfl, rfl, by decide +kernel, rfl, by decide +kernel, by decide +kernel⟩
structure Txt (w : World) (K : PySem.W.Frag) (mg : Str → Option Value) : Prop where
  n_all : mg "all" = none
  n_int : mg "int" = none
  n_isinstance : mg "isinstance" = none
  n_len : mg "len" = none
  n_list : mg "list" = none
  n_max : mg "max" = none
  n_range : mg "range" = none
  n_str : mg "str" = none
  n_tuple : mg "tuple" = none
  n_zip : mg "zip" = none
  g_SIGNS : ∃ u, mg "SIGNS" = some u ∧ RelV (.str (SIGNS_)) u
  g_LETTERS : ∃ u, mg "LETTERS" = some u ∧ RelV (.str "abcdefghijklmnopqrstuvwxyz") u
  g_FIGURES : ∃ u, mg "FIGURES" = some u ∧ RelV (.str "0123456789") u
  g_MOST_FIGURES : ∃ u, mg "MOST_FIGURES" = some u ∧ RelV (.int 9) u
  a_ESCAPES : mg "ESCAPES" = some (.ref (He.ga K "ESCAPES"))
  kd_ESCAPES : KD K w (He.ga K "ESCAPES") [("\"", .str "\""), ("\\", .str "\\"), ("n", .str "\n")]
  d_is_sign : DefAt K mg "is_sign" s_is_sign
  d_is_text : DefAt K mg "is_text" s_is_text
  d_run_end : DefAt K mg "run_end" s_run_end
  d_number_word : DefAt K mg "number_word" s_number_word
  d_quoted_word : DefAt K mg "quoted_word" s_quoted_word
  d_word_at : DefAt K mg "word_at" s_word_at
  d_line_words : DefAt K mg "line_words" s_line_words
  d_quoted_text : DefAt K mg "quoted_text" s_quoted_text
  d_Lpen : DefAt K mg "_law_pen" s_Lpen
  d_Ldraw : DefAt K mg "_law_draw" s_Ldraw
  d_Lpick : DefAt K mg "_law_pick" s_Lpick
  d_Lquoted : DefAt K mg "_law_quoted" s_Lquoted
  d_Lall_signs : DefAt K mg "_law_all_signs" s_Lall_signs
  d_Lany_sign : DefAt K mg "_law_any_sign" s_Lany_sign
  d_Lany_word : DefAt K mg "_law_any_word" s_Lany_word
  d_Lany_name : DefAt K mg "_law_any_name" s_Lany_name
  d_Lline_of_words : DefAt K mg "_law_line_of_words" s_Lline_of_words
  d_Lright_word : DefAt K mg "_law_right_word" s_Lright_word
  d_Lwrong_word : DefAt K mg "_law_wrong_word" s_Lwrong_word
  d_law : DefAt K mg "law" s_law
end K33

namespace K33
open PySem PySem.Spec PyProof.Rows L2 Evl Lay
local macro_rules | `(tactic| walk_at "sx") => `(tactic| simp only [CwR.tReplC, tDisp, tPairs, tBreak, tCont, at0, at1, at2, tSeq, tAsg, tVar, tC, tOp, tUn, rI, rI0, rU, tCB, tCons, tNil, tRet, tIfS, tTest, tB, tAnd, tOr, tNot, tAndV, tOrV, tNotV, tIf, tDGet, sDPut, gName, tNext, rEq, rNe, tDrop, tPar, tAug, tCall, tTup, tLst, tSl, tPart, tNoPart, tYes, tApp, tJoinL, tM1, tM0, tChain,
  tFor_eq, tLc_eq, iListT, iTupT, iRng1, iRng2, iStr, rIxL', rIxT', rIxS, rLenL', rLenT', rInt', rListL', rListT', rTupL', rInT', rInL', rSlL', rSlS, rMulS, rIsB, rInKd, rIxKd, rAllT', rLenX', rLenS', rIxX', reduceCtorEq, false_and, exists_false, or_false, false_or, exists_const, gTupT, gCons, gNil, rCat, dget_upd, dput_upd,
  List.getElem?_cons_zero, List.getElem?_cons_succ, Option.some.injEq, V.int.injEq, V.ref.injEq, V.str.injEq, V.bl.injEq, HO.lst.injEq, HO.tup.injEq, List.cons.injEq, List.cons_append, List.nil_append, List.append_nil,
  exists_eq_left', exists_eq_left, exists_and_left, exists_and_right, and_true, true_and, List.set_cons_zero, List.set_cons_succ, exists_eq_right, exists_eq_right', decide_eq_true_eq, Bool.false_eq_true, if_true, if_false, ite_true, ite_false, and_assoc,
  upd_same, pkv_len, pkv_cells, pkv_at, pkv_digits, pkv_count, pkv_fold, put_at, put_digits, put_count, put_fold, List.length_cons, List.length_nil, decide_true, decide_false, scal_i, scal_s, Nat.reduceAdd, List.map_cons, List.map_nil, HT.sIx_nat, HT.sIx_none, szl0, szl1, szl2, szl3, szl4, szl5, szl6, szl7, szl8, szl9, szl10, szl11, szl12, ipI, wipe, Bool.not_eq_true', Bool.not_true, Bool.not_false, S_eq, S_len, S_cps, S_app, S_cut, S_rep, tyN, tyO, ne_eq, not_false_eq_true, not_true_eq_false])
local macro_rules | `(tactic| walk_at "sy") => `(tactic| simp only [CwR.tReplC, tDisp, tPairs, tBreak, tCont, at0, at1, at2, tSeq, tAsg, tVar, tC, tOp, tUn, rI, rI0, rU, tCB, tCons, tNil, tRet, tIfS, tTest, tB, tAnd, tOr, tNot, tAndV, tOrV, tNotV, tIf, tDGet, sDPut, gName, tNext, rEq, rNe, tDrop, tPar, tAug, tCall, tTup, tLst, tSl, tPart, tNoPart, tYes, tApp, tJoinL, tM1, tM0, tChain,
  tFor_eq, tLc_eq, iListT, iTupT, iRng1, iRng2, iStr, rIxL', rIxT', rIxS, rLenL', rLenT', rInt', rListL', rListT', rTupL', rInT', rInL', rSlL', rSlS, rMulS, rIsB, rInKd, rIxKd, rAllT', rLenX', rLenS', rIxX', reduceCtorEq, false_and, exists_false, or_false, false_or, exists_const, gTupT, gCons, gNil, rCat, dget_upd, dput_upd,
  List.getElem?_cons_zero, List.getElem?_cons_succ, Option.some.injEq, V.int.injEq, V.ref.injEq, V.str.injEq, V.bl.injEq, HO.lst.injEq, HO.tup.injEq, List.cons.injEq, List.cons_append, List.nil_append, List.append_nil,
  exists_eq_left', exists_eq_left, exists_and_left, exists_and_right, and_true, true_and, List.set_cons_zero, List.set_cons_succ, exists_eq_right, exists_eq_right', decide_eq_true_eq, Bool.false_eq_true, if_true, if_false, ite_true, ite_false, and_assoc,
  upd_same, pkv_len, pkv_cells, pkv_at, pkv_digits, pkv_count, pkv_fold, put_at, put_digits, put_count, put_fold, List.length_cons, List.length_nil, decide_true, decide_false, scal_i, scal_s, Nat.reduceAdd, List.map_cons, List.map_nil, HT.sIx_nat, HT.sIx_none, szl0, szl1, szl2, szl3, szl4, szl5, szl6, szl7, szl8, szl9, szl10, szl11, szl12, ipI, wipe, Bool.not_eq_true', Bool.not_true, Bool.not_false, S_eq, S_len, S_cps, S_app, S_cut, S_rep, tyN, tyO, ne_eq, not_false_eq_true, not_true_eq_false, *])

section
variable {P : Program} {w : World} {K : PySem.W.Frag} {mg : Str → Option Value} {base : Heap}
def spSign : Sp := fun vs H Q _ => ∃ c : Nat, vs = [.str (S [c])] ∧ Q (.bl (sgn c)) H
theorem ok_is_sign (T : Txt w K mg) : Ok P w K mg base CX0 1 "is_sign" ["value"] spSign := by
  refine T.d_is_sign.ok sc_is_sign (fun _ _ _ _ _ _ us hl => match us, hl with | [_], _ => rfl) (fun vs H Q E h => ?_) (fun cdv A outer s H vs Q E hr h => ?_)
  · obtain ⟨c, rfl, _⟩ := h
    rfl
  · obtain ⟨c, rfl, k⟩ := h
    refine ⟨_, (pss_one (ps_ret (pe_and (pe_callB (call_isB (n := "str")) (by rfl) T.n_isinstance (by decide +kernel) (pa_cons (pv 0) (pa_cons (pe_bltn (v := .ty "str") (by rfl) T.n_str (by decide +kernel) rfl) pa_nil))) (pe_and (pe_cmpR op_eq (pe_callB call_len_str (by rfl) T.n_len PySem.boot_len (pa_cons (pv 0) pa_nil)) pe_int (nomark _)) (pe_one (pe_or (pe_cmpR op_eq (pv 0) pe_str (nomark _)) (pe_one (pe_cmpR op_in_sign (pv 0) (pe_globC T.g_SIGNS) (by rfl))))))))), ?_⟩
    show tRet _ _ [some (.str (S [c]))] _
    walk_at "sx"
    rw [nl_codes]
    walk_at "sx"
    refine ⟨by decide, ?_⟩
    rw [if_pos (by decide), if_pos (by decide)]
    rw [← mem_S] at k
    by_cases e : c = 10
    · rw [if_pos e]
      rw [decide_eq_true e] at k
      exact k
    · rw [if_neg e]
      rw [decide_eq_false e] at k
      exact k
def spRun : Sp := fun vs H Q _ => ∃ (l g : List Nat) (p : Nat → Bool) (i : Nat), vs = [.str (S l), .int i, .str (S g)] ∧ l.length ≤ 100000 ∧ i ≤ l.length ∧ (∀ c, decide (c ∈ g) = p c) ∧ Q (.int (runEnd l i p)) H
theorem ok_run_end (T : Txt w K mg) : Ok P w K mg base CX0 1 "run_end" ["line", "start", "signs"] spRun := by
  refine T.d_run_end.ok sc_run_end (fun _ _ _ _ _ _ us hl => match us, hl with | [_, _, _], _ => rfl) (fun vs H Q E h => ?_) (fun cdv A outer s H vs Q E hr h => ?_)
  · obtain ⟨l, g, p, i, rfl, _⟩ := h
    rfl
  · obtain ⟨l, g, p, i, rfl, hl, hi, hp, k⟩ := h
    refine ⟨_, (pss_cons (ps_set (i := 3) sc_run_end.nd rfl (by first | exact Or.inl rfl | exact Or.inr rfl) (pv 1))
  (pss_cons (ps_while PassesOwn.never (pt_map (PW.pt (pw_and (pt_cmpR op_lt (pv 3) (pe_callB call_len_str (by rfl) T.n_len PySem.boot_len (pa_cons (pv 0) pa_nil)) (nomark _)) (pw_and1 (pt_cmpR op_in_sign (pe_ix ix_str (pv 0) (pv 3) (fun _ _ => rfl)) (pv 2) (by rfl))))))
    (pss_one (ps_aug (i := 3) sc_run_end.nd rfl (by first | exact Or.inl rfl | exact Or.inr rfl) pe_int ip_add)))
  (pss_one (ps_ret (pv 3))))), ?_⟩
    show tSeq _ _ _ [some (.str (S l)), some (.int i), some (.str (S g)), none] _
    walk_at "sx"
    refine while_m (fun m σ H' => ∃ j : Nat, m = l.length - j ∧ H' = H ∧ j ≤ l.length ∧ runEnd l j p = runEnd l i p ∧ σ = [some (.str (S l)), some (.int i), some (.str (S g)), some (.int j)]) (l.length - i) ⟨i, rfl, rfl, hi, rfl, rfl⟩ ?_
    rintro m σ H' ⟨j, rfl, rfl, hj, ej, rfl⟩
    walk_at "sx"
    refine ⟨sz_of hl, ?_⟩
    by_cases c : (j : Int) < l.length
    · have c' : j < l.length := by omega
      rw [if_pos c]
      refine ⟨sz_of hl, l[j], atI_of c', ?_⟩
      by_cases hc : l[j] ∈ g
      · rw [if_pos hc]
        have hpc : p l[j] = true := by rw [← hp]; exact decide_eq_true hc
        exact ⟨l.length - (j + 1), by omega, j + 1, rfl, c', by rw [runEnd_go (List.getElem?_eq_getElem c') hpc, ej], by omega⟩
      · rw [if_neg hc]
        have hpc : p l[j] = false := by rw [← hp]; exact decide_eq_false hc
        rw [← ej, runEnd_stop] at k
        · exact k
        · intro d hd
          rw [List.getElem?_eq_getElem c'] at hd
          rw [← Option.some.inj hd]
          exact hpc
    · rw [if_neg c]
      rw [← ej, runEnd_stop] at k
      · exact k
      · intro d hd
        have := (List.getElem?_eq_some_iff.mp hd).1
        omega
end
end K33

namespace K33
open PySem PySem.Spec PyProof.Rows L2 Evl Lay
def namesA : List Str := ["SIGNS", "is_sign", "is_text", "LETTERS", "FIGURES", "MOST_FIGURES", "ESCAPES", "run_end", "number_word", "quoted_word", "word_at", "line_words", "quoted_text", "_law_pen", "_law_draw", "_law_pick", "_law_quoted", "_law_all_signs", "_law_any_sign", "_law_any_word", "_law_any_name", "_law_line_of_words", "_law_right_word", "_law_wrong_word"]
def names : List Str := namesA
def fa : List He.Fa := [.glo "is_sign", .glo "is_text", .glo "run_end", .glo "number_word", .glo "quoted_word", .glo "word_at", .glo "line_words", .glo "quoted_text", .glo "_law_pen", .glo "_law_draw", .glo "_law_pick", .glo "_law_quoted", .glo "_law_all_signs", .glo "_law_any_sign", .glo "_law_any_word", .glo "_law_any_name", .glo "_law_line_of_words", .glo "_law_right_word", .glo "_law_wrong_word", .glo "law", .free "all", .free "int", .free "isinstance", .free "len", .free "list", .free "max", .free "range", .free "str", .free "tuple", .free "zip", .str "SIGNS" (SIGNS_), .str "LETTERS" "abcdefghijklmnopqrstuvwxyz", .str "FIGURES" "0123456789", .int "MOST_FIGURES" 9, .glo "ESCAPES"]
def dd_is_sign : He.DefD := ⟨("is_sign", none), "is_sign", "is_sign", defArgs s_is_sign, defBody s_is_sign, defScope s_is_sign, [], []⟩
def dd_is_text : He.DefD := ⟨("is_text", none), "is_text", "is_text", defArgs s_is_text, defBody s_is_text, defScope s_is_text, [], []⟩
def dd_run_end : He.DefD := ⟨("run_end", none), "run_end", "run_end", defArgs s_run_end, defBody s_run_end, defScope s_run_end, [], []⟩
def dd_number_word : He.DefD := ⟨("number_word", none), "number_word", "number_word", defArgs s_number_word, defBody s_number_word, defScope s_number_word, [], []⟩
def dd_quoted_word : He.DefD := ⟨("quoted_word", none), "quoted_word", "quoted_word", defArgs s_quoted_word, defBody s_quoted_word, defScope s_quoted_word, [], []⟩
def dd_word_at : He.DefD := ⟨("word_at", none), "word_at", "word_at", defArgs s_word_at, defBody s_word_at, defScope s_word_at, [], []⟩
def dd_line_words : He.DefD := ⟨("line_words", none), "line_words", "line_words", defArgs s_line_words, defBody s_line_words, defScope s_line_words, [], []⟩
def dd_quoted_text : He.DefD := ⟨("quoted_text", none), "quoted_text", "quoted_text", defArgs s_quoted_text, defBody s_quoted_text, defScope s_quoted_text, [], []⟩
def dd_Lpen : He.DefD := ⟨("_law_pen", none), "_law_pen", "_law_pen", defArgs s_Lpen, defBody s_Lpen, defScope s_Lpen, [], []⟩
def dd_Ldraw : He.DefD := ⟨("_law_draw", none), "_law_draw", "_law_draw", defArgs s_Ldraw, defBody s_Ldraw, defScope s_Ldraw, [], []⟩
def dd_Lpick : He.DefD := ⟨("_law_pick", none), "_law_pick", "_law_pick", defArgs s_Lpick, defBody s_Lpick, defScope s_Lpick, [], []⟩
def dd_Lquoted : He.DefD := ⟨("_law_quoted", none), "_law_quoted", "_law_quoted", defArgs s_Lquoted, defBody s_Lquoted, defScope s_Lquoted, [], []⟩
def dd_Lall_signs : He.DefD := ⟨("_law_all_signs", none), "_law_all_signs", "_law_all_signs", defArgs s_Lall_signs, defBody s_Lall_signs, defScope s_Lall_signs, [], []⟩
def dd_Lany_sign : He.DefD := ⟨("_law_any_sign", none), "_law_any_sign", "_law_any_sign", defArgs s_Lany_sign, defBody s_Lany_sign, defScope s_Lany_sign, [], []⟩
def dd_Lany_word : He.DefD := ⟨("_law_any_word", none), "_law_any_word", "_law_any_word", defArgs s_Lany_word, defBody s_Lany_word, defScope s_Lany_word, [], []⟩
def dd_Lany_name : He.DefD := ⟨("_law_any_name", none), "_law_any_name", "_law_any_name", defArgs s_Lany_name, defBody s_Lany_name, defScope s_Lany_name, [], []⟩
def dd_Lline_of_words : He.DefD := ⟨("_law_line_of_words", none), "_law_line_of_words", "_law_line_of_words", defArgs s_Lline_of_words, defBody s_Lline_of_words, defScope s_Lline_of_words, [], []⟩
def dd_Lright_word : He.DefD := ⟨("_law_right_word", none), "_law_right_word", "_law_right_word", defArgs s_Lright_word, defBody s_Lright_word, defScope s_Lright_word, [], []⟩
def dd_Lwrong_word : He.DefD := ⟨("_law_wrong_word", none), "_law_wrong_word", "_law_wrong_word", defArgs s_Lwrong_word, defBody s_Lwrong_word, defScope s_Lwrong_word, [], []⟩
def dd_law : He.DefD := ⟨("law", none), "law", "law", defArgs s_law, defBody s_law, defScope s_law, [], []⟩
def fn : List He.DefD := [dd_is_sign, dd_is_text, dd_run_end, dd_number_word, dd_quoted_word, dd_word_at, dd_line_words, dd_quoted_text, dd_Lpen, dd_Ldraw, dd_Lpick, dd_Lquoted, dd_Lall_signs, dd_Lany_sign, dd_Lany_word, dd_Lany_name, dd_Lline_of_words, dd_Lright_word, dd_Lwrong_word, dd_law]
def ts : List He.Tab := [((fun K => He.ga K "ESCAPES"), ["\"", "\\", "n"])]
def ex (K : PySem.W.Frag) : Bool := He.valsB K (He.ga K "ESCAPES") [("\"", .str "\""), ("\\", .str "\\"), ("n", .str "\n")]
abbrev R : PySem.W.OpenRow := PySem.W.OpenLaw.row PySem.Challenge.rw_textworkshop_k33_words_of_lines
abbrev hk : PySem.W.Hook := He.hookX 4 fa fn ts [] ex
def ob (s : PySem.W.SharedT) : He.AlX := He.obsX 4 fa fn ts [] ex (HandSHeadRun.getT s)
theorem ob_eq (s : PySem.W.SharedT) : ob s = hk.obs s.abs := He.obsX_eq (HandSHeadRun.getT_eq s)
theorem run (w : World) : HandSHeadRun.RunEq R (PySem.W.view R.prog [27]) hk ob 3000 names w := PySem.W.byRow2 "special-get-raises" (P := fun w => HandSHeadRun.RunEq R (PySem.W.view R.prog [27]) hk ob 3000 names w) (fun w os => by kernel_rfl) (fun w os => by kernel_rfl) w
theorem txt_of {w : World} {K : PySem.W.Frag} {h : Heap} {mg : Str → Option Value} (X : K.In h) (G : h.Ns mainGlobals mg) (c : He.SaysX fa fn ts [] ex w h K) : Txt w K mg := by
  have cd := c.t.d
  constructor
  · exact He.free_ok X G (cd.fact 20 (f := .free "all") rfl)
  · exact He.free_ok X G (cd.fact 21 (f := .free "int") rfl)
  · exact He.free_ok X G (cd.fact 22 (f := .free "isinstance") rfl)
  · exact He.free_ok X G (cd.fact 23 (f := .free "len") rfl)
  · exact He.free_ok X G (cd.fact 24 (f := .free "list") rfl)
  · exact He.free_ok X G (cd.fact 25 (f := .free "max") rfl)
  · exact He.free_ok X G (cd.fact 26 (f := .free "range") rfl)
  · exact He.free_ok X G (cd.fact 27 (f := .free "str") rfl)
  · exact He.free_ok X G (cd.fact 28 (f := .free "tuple") rfl)
  · exact He.free_ok X G (cd.fact 29 (f := .free "zip") rfl)
  · obtain ⟨t, e⟩ := He.str_ok X G (cd.fact 30 (f := .str "SIGNS" (SIGNS_)) rfl)
    exact ⟨_, e, t, rfl⟩
  · obtain ⟨t, e⟩ := He.str_ok X G (cd.fact 31 (f := .str "LETTERS" "abcdefghijklmnopqrstuvwxyz") rfl)
    exact ⟨_, e, t, rfl⟩
  · obtain ⟨t, e⟩ := He.str_ok X G (cd.fact 32 (f := .str "FIGURES" "0123456789") rfl)
    exact ⟨_, e, t, rfl⟩
  · obtain ⟨t, e⟩ := He.int_ok X G (cd.fact 33 (f := .int "MOST_FIGURES" 9) rfl)
    exact ⟨_, e, t, rfl⟩
  · exact He.glo_ok X G (cd.fact 34 (f := .glo "ESCAPES") rfl)
  · refine KD.mk' (ks := ["\"", "\\", "n"]) (Option.some.inj (by have e := congrArg (fun z : He.AlT => z.2[0]?) c.t; exact e)) ?_ ?_
    · intro z hz hm
      revert hz
      simp only [List.mem_cons, List.not_mem_nil, or_false] at hm
      rcases hm with rfl | rfl | rfl <;> (intro hz; exact absurd hz (by decide +kernel))
    · intro z v hz
      have hm := mem_of_lookupV hz
      simp only [List.mem_cons, List.not_mem_nil, or_false, Prod.mk.injEq] at hm
      rcases hm with ⟨rfl, rfl⟩ | ⟨rfl, rfl⟩ | ⟨rfl, rfl⟩
      · exact He.valsB_ok (K := K) (a := He.ga K "ESCAPES") (q := ("\"", .str "\"")) c.more (by simp)
      · exact He.valsB_ok (K := K) (a := He.ga K "ESCAPES") (q := ("\\", .str "\\")) c.more (by simp)
      · exact He.valsB_ok (K := K) (a := He.ga K "ESCAPES") (q := ("n", .str "\n")) c.more (by simp)
  · exact ⟨He.glo_ok X G (cd.fact 0 (f := .glo "is_sign") rfl), cd.def_ 0 (d := dd_is_sign) rfl⟩
  · exact ⟨He.glo_ok X G (cd.fact 1 (f := .glo "is_text") rfl), cd.def_ 1 (d := dd_is_text) rfl⟩
  · exact ⟨He.glo_ok X G (cd.fact 2 (f := .glo "run_end") rfl), cd.def_ 2 (d := dd_run_end) rfl⟩
  · exact ⟨He.glo_ok X G (cd.fact 3 (f := .glo "number_word") rfl), cd.def_ 3 (d := dd_number_word) rfl⟩
  · exact ⟨He.glo_ok X G (cd.fact 4 (f := .glo "quoted_word") rfl), cd.def_ 4 (d := dd_quoted_word) rfl⟩
  · exact ⟨He.glo_ok X G (cd.fact 5 (f := .glo "word_at") rfl), cd.def_ 5 (d := dd_word_at) rfl⟩
  · exact ⟨He.glo_ok X G (cd.fact 6 (f := .glo "line_words") rfl), cd.def_ 6 (d := dd_line_words) rfl⟩
  · exact ⟨He.glo_ok X G (cd.fact 7 (f := .glo "quoted_text") rfl), cd.def_ 7 (d := dd_quoted_text) rfl⟩
  · exact ⟨He.glo_ok X G (cd.fact 8 (f := .glo "_law_pen") rfl), cd.def_ 8 (d := dd_Lpen) rfl⟩
  · exact ⟨He.glo_ok X G (cd.fact 9 (f := .glo "_law_draw") rfl), cd.def_ 9 (d := dd_Ldraw) rfl⟩
  · exact ⟨He.glo_ok X G (cd.fact 10 (f := .glo "_law_pick") rfl), cd.def_ 10 (d := dd_Lpick) rfl⟩
  · exact ⟨He.glo_ok X G (cd.fact 11 (f := .glo "_law_quoted") rfl), cd.def_ 11 (d := dd_Lquoted) rfl⟩
  · exact ⟨He.glo_ok X G (cd.fact 12 (f := .glo "_law_all_signs") rfl), cd.def_ 12 (d := dd_Lall_signs) rfl⟩
  · exact ⟨He.glo_ok X G (cd.fact 13 (f := .glo "_law_any_sign") rfl), cd.def_ 13 (d := dd_Lany_sign) rfl⟩
  · exact ⟨He.glo_ok X G (cd.fact 14 (f := .glo "_law_any_word") rfl), cd.def_ 14 (d := dd_Lany_word) rfl⟩
  · exact ⟨He.glo_ok X G (cd.fact 15 (f := .glo "_law_any_name") rfl), cd.def_ 15 (d := dd_Lany_name) rfl⟩
  · exact ⟨He.glo_ok X G (cd.fact 16 (f := .glo "_law_line_of_words") rfl), cd.def_ 16 (d := dd_Lline_of_words) rfl⟩
  · exact ⟨He.glo_ok X G (cd.fact 17 (f := .glo "_law_right_word") rfl), cd.def_ 17 (d := dd_Lright_word) rfl⟩
  · exact ⟨He.glo_ok X G (cd.fact 18 (f := .glo "_law_wrong_word") rfl), cd.def_ 18 (d := dd_Lwrong_word) rfl⟩
  · exact ⟨He.glo_ok X G (cd.fact 19 (f := .glo "law") rfl), cd.def_ 19 (d := dd_law) rfl⟩
end K33

namespace K33
open PySem PySem.Spec PyProof.Rows L2 Evl Lay
local macro_rules | `(tactic| walk_at "sx") => `(tactic| simp only [CwR.tReplC, tDisp, tPairs, tBreak, tCont, at0, at1, at2, tSeq, tAsg, tVar, tC, tOp, tUn, rI, rI0, rU, tCB, tCons, tNil, tRet, tIfS, tTest, tB, tAnd, tOr, tNot, tAndV, tOrV, tNotV, tIf, tDGet, sDPut, gName, tNext, rEq, rNe, tDrop, tPar, tAug, tCall, tTup, tLst, tSl, tPart, tNoPart, tYes, tApp, tJoinL, tM1, tM0, tChain,
  tFor_eq, tLc_eq, iListT, iTupT, iRng1, iRng2, iStr, rIxL', rIxT', rIxS, rLenL', rLenT', rInt', rListL', rListT', rTupL', rInT', rInL', rSlL', rSlS, rMulS, rIsB, rInKd, rIxKd, rAllT', rLenX', rLenS', rIxX', reduceCtorEq, false_and, exists_false, or_false, false_or, exists_const, gTupT, gCons, gNil, rCat, dget_upd, dput_upd,
  List.getElem?_cons_zero, List.getElem?_cons_succ, Option.some.injEq, V.int.injEq, V.ref.injEq, V.str.injEq, V.bl.injEq, HO.lst.injEq, HO.tup.injEq, List.cons.injEq, List.cons_append, List.nil_append, List.append_nil,
  exists_eq_left', exists_eq_left, exists_and_left, exists_and_right, and_true, true_and, List.set_cons_zero, List.set_cons_succ, exists_eq_right, exists_eq_right', decide_eq_true_eq, Bool.false_eq_true, if_true, if_false, ite_true, ite_false, and_assoc,
  upd_same, pkv_len, pkv_cells, pkv_at, pkv_digits, pkv_count, pkv_fold, put_at, put_digits, put_count, put_fold, List.length_cons, List.length_nil, decide_true, decide_false, scal_i, scal_s, Nat.reduceAdd, List.map_cons, List.map_nil, HT.sIx_nat, HT.sIx_none, szl0, szl1, szl2, szl3, szl4, szl5, szl6, szl7, szl8, szl9, szl10, szl11, szl12, ipI, wipe, Bool.not_eq_true', Bool.not_true, Bool.not_false, S_eq, S_len, S_cps, S_app, S_cut, S_rep, tyN, tyO, ne_eq, not_false_eq_true, not_true_eq_false])
local macro_rules | `(tactic| walk_at "sy") => `(tactic| simp only [CwR.tReplC, tDisp, tPairs, tBreak, tCont, at0, at1, at2, tSeq, tAsg, tVar, tC, tOp, tUn, rI, rI0, rU, tCB, tCons, tNil, tRet, tIfS, tTest, tB, tAnd, tOr, tNot, tAndV, tOrV, tNotV, tIf, tDGet, sDPut, gName, tNext, rEq, rNe, tDrop, tPar, tAug, tCall, tTup, tLst, tSl, tPart, tNoPart, tYes, tApp, tJoinL, tM1, tM0, tChain,
  tFor_eq, tLc_eq, iListT, iTupT, iRng1, iRng2, iStr, rIxL', rIxT', rIxS, rLenL', rLenT', rInt', rListL', rListT', rTupL', rInT', rInL', rSlL', rSlS, rMulS, rIsB, rInKd, rIxKd, rAllT', rLenX', rLenS', rIxX', reduceCtorEq, false_and, exists_false, or_false, false_or, exists_const, gTupT, gCons, gNil, rCat, dget_upd, dput_upd,
  List.getElem?_cons_zero, List.getElem?_cons_succ, Option.some.injEq, V.int.injEq, V.ref.injEq, V.str.injEq, V.bl.injEq, HO.lst.injEq, HO.tup.injEq, List.cons.injEq, List.cons_append, List.nil_append, List.append_nil,
  exists_eq_left', exists_eq_left, exists_and_left, exists_and_right, and_true, true_and, List.set_cons_zero, List.set_cons_succ, exists_eq_right, exists_eq_right', decide_eq_true_eq, Bool.false_eq_true, if_true, if_false, ite_true, ite_false, and_assoc,
  upd_same, pkv_len, pkv_cells, pkv_at, pkv_digits, pkv_count, pkv_fold, put_at, put_digits, put_count, put_fold, List.length_cons, List.length_nil, decide_true, decide_false, scal_i, scal_s, Nat.reduceAdd, List.map_cons, List.map_nil, HT.sIx_nat, HT.sIx_none, szl0, szl1, szl2, szl3, szl4, szl5, szl6, szl7, szl8, szl9, szl10, szl11, szl12, ipI, wipe, Bool.not_eq_true', Bool.not_true, Bool.not_false, S_eq, S_len, S_cps, S_app, S_cut, S_rep, tyN, tyO, ne_eq, not_false_eq_true, not_true_eq_false, *])

section
variable {P : Program} {w : World} {K : PySem.W.Frag} {mg : Str → Option Value} {base : Heap}
def spText : Sp := fun vs H Q _ => ∃ l : List Nat, vs = [.str (S l)] ∧ l.length ≤ 100000 ∧ ∀ H', Ex H H' → Q (.bl (l.all sgn)) H'
theorem ok_is_text (T : Txt w K mg) : Ok P w K mg base CX0 2 "is_text" ["value"] spText := by
  refine T.d_is_text.ok sc_is_text (fun _ _ _ _ _ _ us hl => match us, hl with | [_], _ => rfl) (fun vs H Q E h => ?_) (fun cdv A outer s H vs Q E hr h => ?_)
  · obtain ⟨l, rfl, _⟩ := h
    rfl
  · obtain ⟨l, rfl, hl, k⟩ := h
    refine ⟨_, (pss_one (ps_ret (pe_and (pe_callB (call_isB (n := "str")) (by rfl) T.n_isinstance (by decide +kernel) (pa_cons (pv 0) (pa_cons (pe_bltn (v := .ty "str") (by rfl) T.n_str (by decide +kernel) rfl) pa_nil))) (pe_one (pe_callB (cr_allT rfl) (by rfl) T.n_all (by decide +kernel) (pa_cons (pe_lc (own := [("sign", 1)]) rfl sc_is_text.nd (pi_str (pv 0)) (blkOk_by (own := [("sign", 1)]) (N := N_is_text) (sc := defScope s_is_text) (by decide +kernel)) (fun _ _ _ _ _ => (pg_name (i := 1) sc_is_text.nd rfl (by first | exact Or.inl rfl | exact Or.inr rfl))) (fun _ _ _ _ _ => pts_nil) (fun _ _ _ _ _ => (pe_callO (ok_is_sign T) (hr.mono (by decide)) (pa_cons (pv 1) pa_nil)))) pa_nil)))))), ?_⟩
    show tRet _ _ [some (.str (S l)), none] _
    walk_at "sx"
    refine ⟨by decide, ?_⟩
    rw [if_pos (by decide)]
    intro D hD
    refine lcp_by (walks_S l) (fun i H' => H' = upd H D (.lst ((l.take i).map (fun c => .bl (sgn c))))) rfl (fun _ _ _ _ => trivial) ?_ ?_
    · rintro i H' hi rfl
      walk_at "sx"
      refine ⟨l.getD i 0, rfl, (l.take i).map fun c => V.bl (sgn c), upd_same, ?_⟩
      refine ⟨by rw [List.length_map, List.length_take]; exact sz_lt (by omega), ?_⟩
      rw [upd_upd]
      congr 1
      have e : l.take (i + 1) = l.take i ++ [l.getD i 0] := by
        rw [List.take_succ, List.getElem?_eq_getElem hi]
        simp [List.getD, List.getElem?_eq_getElem hi]
      rw [e, List.map_append]
      rfl
    · rintro H' rfl
      refine ⟨l.map sgn, ?_⟩
      rw [upd_same, List.take_length, List.map_map]
      refine ⟨rfl, ?_⟩
      have := k (upd H D (.lst (l.map fun c => V.bl (sgn c)))) (Ex.new hD)
      rw [List.all_map]
      exact this
def spNum : Sp := fun vs H Q _ => ∃ (l : List Nat) (i c : Nat), vs = [.str (S l), .int i] ∧ l.length ≤ 100000 ∧ l[i]? = some c ∧ isD c = true ∧
  ∀ t u H', Ex H H' → H' u = some (.tup [.str (wordAt l i).1, (wordAt l i).2.1, .int (i + 1)]) → H' t = some (.tup [.ref u, .int (wordAt l i).2.2]) → Q (.ref t) H'
theorem ok_number_word (T : Txt w K mg) : Ok P w K mg base CX0 2 "number_word" ["line", "start"] spNum := by
  refine T.d_number_word.ok sc_number_word (fun _ _ _ _ _ _ us hl => match us, hl with | [_, _], _ => rfl) (fun vs H Q E h => ?_) (fun cdv A outer s H vs Q E hr h => ?_)
  · obtain ⟨l, i, c, rfl, _⟩ := h
    rfl
  · obtain ⟨l, i, c, rfl, hl, hi, hc, k⟩ := h
    refine ⟨_, (pss_cons (ps_set (i := 2) sc_number_word.nd rfl (by first | exact Or.inl rfl | exact Or.inr rfl) (pe_callO (ok_run_end T) (hr.mono (by decide)) (pa_cons (pv 0) (pa_cons (pv 1) (pa_cons (pe_globC T.g_FIGURES) pa_nil)))))
  (pss_cons (ps_if (PW.pt (pw_and (pt_cmpR op_eq (pe_ix ix_str (pv 0) (pv 1) (fun _ _ => rfl)) pe_str (nomark _)) (pw_and1 (pt_cmpR op_gt (pv 2) (pe_op op_add (pv 1) pe_int) (nomark _)))))
    (pss_one (ps_ret (pe_tup (pa_cons (pe_tup (pa_cons pe_str (pa_cons (pe_op op_add (pv 1) pe_int) (pa_cons (pe_op op_add (pv 1) pe_int) pa_nil)))) (pa_cons (pv 2) pa_nil)))))
    pss_nil)
  (pss_cons (ps_if (pt_cmpR op_gt (pv 2) (pe_op op_add (pv 1) (pe_globC T.g_MOST_FIGURES)) (nomark _))
    (pss_one (ps_ret (pe_tup (pa_cons (pe_tup (pa_cons pe_str (pa_cons (pe_op op_add (pe_op op_add (pv 1) (pe_globC T.g_MOST_FIGURES)) pe_int) (pa_cons (pe_op op_add (pv 1) pe_int) pa_nil)))) (pa_cons (pv 2) pa_nil)))))
    pss_nil)
  (pss_one (ps_ret (pe_tup (pa_cons (pe_tup (pa_cons pe_str (pa_cons (pe_callTy call_int_str (by rfl) T.n_int (by decide +kernel) (pa_cons (pe_slice sl_str (pv 0) (po_some (pv 1)) (po_some (pv 2))) pa_nil)) (pa_cons (pe_op op_add (pv 1) pe_int) pa_nil)))) (pa_cons (pv 2) pa_nil)))))))), ?_⟩
    show tSeq _ _ _ [some (.str (S l)), some (.int i), none] _
    obtain ⟨hil, hic⟩ := List.getElem?_eq_some_iff.mp hi
    walk_at "sx"
    refine ⟨l, _, isD, i, by rw [figures_codes], hl, Nat.le_of_lt hil, fun d => by rw [← mem_D, figures_codes], ?_⟩
    walk_at "sx"
    refine ⟨sz_of hl, c, atI_nat hi, ?_⟩
    rw [zero_codes]
    walk_at "sx"
    have e0 : l.getD i 0 = c := by simp [List.getD, hi]
    have hL : isL c = false := by
      unfold isD at hc
      unfold isL
      simp only [Bool.and_eq_true, decide_eq_true_eq] at hc
      simp only [Bool.and_eq_false_iff, decide_eq_false_iff_not]
      omega
    have hg := runEnd_gt hi hc
    have hle : runEnd l i isD ≤ l.length := runEnd_le (Nat.le_of_lt hil)
    have fin : ∀ (q : Str × V × Nat), wordAt l i = q → ∀ p, H p = none → ∀ p1, upd H p (.tup [.str q.1, q.2.1, .int (i + 1)]) p1 = none → Q (.ref p1) (upd (upd H p (.tup [.str q.1, q.2.1, .int (i + 1)])) p1 (.tup [.ref p, .int q.2.2])) := fun q e => by
      rw [e] at k
      exact two_tups (Ex.refl H) k
    have hnum : ¬ (c = 48 ∧ i + 1 < runEnd l i isD) → ¬ i + 9 < runEnd l i isD → l.length ≤ sizeLine ∧ ∃ x, intText? (S (List.take (min (runEnd l i isD) l.length - min i l.length) (List.drop (min i l.length) l))) = some x ∧
        (List.take (min (runEnd l i isD) l.length - min i l.length) (List.drop (min i l.length) l)).length ≤ 640 ∧
        ∀ p, H p = none → ∀ p1, upd H p (.tup [.str "number", .int x, .int (i + 1)]) p1 = none → Q (.ref p1) (upd (upd H p (.tup [.str "number", .int x, .int (i + 1)])) p1 (.tup [.ref p, .int (runEnd l i isD)])) := fun h1 h2 => by
      rw [Nat.min_eq_left hle, Nat.min_eq_left (Nat.le_of_lt hil)]
      refine ⟨sz_of hl, _, SX.int_S (a := digs l i) runEnd_all ?_ ?_, ?_, ?_⟩
      · intro z
        have := congrArg List.length z
        unfold digs at this
        rw [List.length_take, List.length_drop] at this
        have : min (runEnd l i isD - i) (l.length - i) = 0 := this
        omega
      · unfold digs
        rw [List.length_take]
        omega
      · rw [List.length_take]
        omega
      · refine fin ("number", .int (NumText.digitsVal (digs l i)), runEnd l i isD) ?_
        unfold wordAt
        simp only [e0, hL, hc, if_neg h1, if_neg h2]
        rfl
    by_cases c48 : c = 48
    · rw [if_pos c48]
      by_cases h1 : i + 1 < runEnd l i isD
      · rw [if_pos (by omega)]
        refine fin ("bad number", .int (i + 2), runEnd l i isD) ?_
        unfold wordAt
        simp only [e0, hL, hc, if_pos (And.intro c48 h1)]
        rfl
      · rw [if_neg (by omega), if_neg (by omega)]
        exact hnum (fun z => h1 z.2) (by omega)
    · rw [if_neg c48]
      by_cases h2 : i + 9 < runEnd l i isD
      · rw [if_pos (by omega)]
        refine fin ("bad number", .int (i + 9 + 1), runEnd l i isD) ?_
        unfold wordAt
        simp only [e0, hL, hc, if_neg (show ¬ (c = 48 ∧ i + 1 < runEnd l i isD) from fun z => c48 z.1), if_pos h2]
        rfl
      · rw [if_neg (by omega)]
        exact hnum (fun z => c48 z.1) h2
end
end K33

namespace K33
open PySem PySem.Spec PyProof.Rows L2 Evl Lay
local macro_rules | `(tactic| walk_at "sx") => `(tactic| simp only [CwR.tReplC, tDisp, tPairs, tBreak, tCont, at0, at1, at2, tSeq, tAsg, tVar, tC, tOp, tUn, rI, rI0, rU, tCB, tCons, tNil, tRet, tIfS, tTest, tB, tAnd, tOr, tNot, tAndV, tOrV, tNotV, tIf, tDGet, sDPut, gName, tNext, rEq, rNe, tDrop, tPar, tAug, tCall, tTup, tLst, tSl, tPart, tNoPart, tYes, tApp, tJoinL, tM1, tM0, tChain,
  tFor_eq, tLc_eq, iListT, iTupT, iRng1, iRng2, iStr, rIxL', rIxT', rIxS, rLenL', rLenT', rInt', rListL', rListT', rTupL', rInT', rInL', rSlL', rSlS, rMulS, rIsB, rInKd, rIxKd, rAllT', rLenX', rLenS', rIxX', reduceCtorEq, false_and, exists_false, or_false, false_or, exists_const, gTupT, gCons, gNil, rCat, dget_upd, dput_upd,
  List.getElem?_cons_zero, List.getElem?_cons_succ, Option.some.injEq, V.int.injEq, V.ref.injEq, V.str.injEq, V.bl.injEq, HO.lst.injEq, HO.tup.injEq, List.cons.injEq, List.cons_append, List.nil_append, List.append_nil,
  exists_eq_left', exists_eq_left, exists_and_left, exists_and_right, and_true, true_and, List.set_cons_zero, List.set_cons_succ, exists_eq_right, exists_eq_right', decide_eq_true_eq, Bool.false_eq_true, if_true, if_false, ite_true, ite_false, and_assoc,
  upd_same, pkv_len, pkv_cells, pkv_at, pkv_digits, pkv_count, pkv_fold, put_at, put_digits, put_count, put_fold, List.length_cons, List.length_nil, decide_true, decide_false, scal_i, scal_s, Nat.reduceAdd, List.map_cons, List.map_nil, HT.sIx_nat, HT.sIx_none, szl0, szl1, szl2, szl3, szl4, szl5, szl6, szl7, szl8, szl9, szl10, szl11, szl12, ipI, wipe, Bool.not_eq_true', Bool.not_true, Bool.not_false, S_eq, S_len, S_cps, S_app, S_cut, S_rep, tyN, tyO, ne_eq, not_false_eq_true, not_true_eq_false])
local macro_rules | `(tactic| walk_at "sy") => `(tactic| simp only [CwR.tReplC, tDisp, tPairs, tBreak, tCont, at0, at1, at2, tSeq, tAsg, tVar, tC, tOp, tUn, rI, rI0, rU, tCB, tCons, tNil, tRet, tIfS, tTest, tB, tAnd, tOr, tNot, tAndV, tOrV, tNotV, tIf, tDGet, sDPut, gName, tNext, rEq, rNe, tDrop, tPar, tAug, tCall, tTup, tLst, tSl, tPart, tNoPart, tYes, tApp, tJoinL, tM1, tM0, tChain,
  tFor_eq, tLc_eq, iListT, iTupT, iRng1, iRng2, iStr, rIxL', rIxT', rIxS, rLenL', rLenT', rInt', rListL', rListT', rTupL', rInT', rInL', rSlL', rSlS, rMulS, rIsB, rInKd, rIxKd, rAllT', rLenX', rLenS', rIxX', reduceCtorEq, false_and, exists_false, or_false, false_or, exists_const, gTupT, gCons, gNil, rCat, dget_upd, dput_upd,
  List.getElem?_cons_zero, List.getElem?_cons_succ, Option.some.injEq, V.int.injEq, V.ref.injEq, V.str.injEq, V.bl.injEq, HO.lst.injEq, HO.tup.injEq, List.cons.injEq, List.cons_append, List.nil_append, List.append_nil,
  exists_eq_left', exists_eq_left, exists_and_left, exists_and_right, and_true, true_and, List.set_cons_zero, List.set_cons_succ, exists_eq_right, exists_eq_right', decide_eq_true_eq, Bool.false_eq_true, if_true, if_false, ite_true, ite_false, and_assoc,
  upd_same, pkv_len, pkv_cells, pkv_at, pkv_digits, pkv_count, pkv_fold, put_at, put_digits, put_count, put_fold, List.length_cons, List.length_nil, decide_true, decide_false, scal_i, scal_s, Nat.reduceAdd, List.map_cons, List.map_nil, HT.sIx_nat, HT.sIx_none, szl0, szl1, szl2, szl3, szl4, szl5, szl6, szl7, szl8, szl9, szl10, szl11, szl12, ipI, wipe, Bool.not_eq_true', Bool.not_true, Bool.not_false, S_eq, S_len, S_cps, S_app, S_cut, S_rep, tyN, tyO, ne_eq, not_false_eq_true, not_true_eq_false, *])

section
variable {P : Program} {w : World} {K : PySem.W.Frag} {mg : Str → Option Value} {base : Heap}
def spQuo : Sp := fun vs H Q _ => ∃ (l : List Nat) (i : Nat), vs = [.str (S l), .int i] ∧ l.length ≤ 100000 ∧ l[i]? = some 34 ∧
  ∀ t u H', Ex H H' → H' u = some (.tup [.str (wordAt l i).1, (wordAt l i).2.1, .int (i + 1)]) → H' t = some (.tup [.ref u, .int (wordAt l i).2.2]) → Q (.ref t) H'
theorem ok_quoted_word (T : Txt w K mg) : Ok P w K mg base CX0 3 "quoted_word" ["line", "start"] spQuo := by
  refine T.d_quoted_word.ok sc_quoted_word (fun _ _ _ _ _ _ us hl => match us, hl with | [_, _], _ => rfl) (fun vs H Q E h => ?_) (fun cdv A outer s H vs Q E hr h => ?_)
  · obtain ⟨l, i, rfl, _⟩ := h
    rfl
  · obtain ⟨l, i, rfl, hl, hi, k⟩ := h
    obtain ⟨hil, hic⟩ := List.getElem?_eq_some_iff.mp hi
    refine ⟨_, (pss_cons (ps_par (i := 2) (j := 3) (by rfl) sc_quoted_word.nd rfl rfl (by decide) rfl rfl (pa_cons (pe_lst pa_nil) (pa_cons (pe_op op_add (pv 1) pe_int) pa_nil)) (by rfl))
  (pss_cons (ps_while PassesOwn.never (pt_map (PW.pt (pw_and (pt_cmpR op_lt (pv 3) (pe_callB call_len_str (by rfl) T.n_len PySem.boot_len (pa_cons (pv 0) pa_nil)) (nomark _)) (pw_and1 (pt_cmpR op_ne (pe_ix ix_str (pv 0) (pv 3) (fun _ _ => rfl)) pe_str (nomark _))))))
    (pss_one (ps_if (pt_cmpR op_eq (pe_ix ix_str (pv 0) (pv 3) (fun _ _ => rfl)) pe_str (nomark _))
    (pss_cons (ps_if (pt_cmpR (op_notInKd T.kd_ESCAPES) (pe_slice sl_str (pv 0) (po_some (pe_op op_add (pv 3) pe_int)) (po_some (pe_op op_add (pv 3) pe_int))) (pe_glob (v := .ref (He.ga K "ESCAPES")) (by rfl) T.a_ESCAPES rfl) (by rfl))
    (pss_one (ps_ret (pe_tup (pa_cons (pe_tup (pa_cons pe_str (pa_cons (pe_op op_add (pv 3) pe_int) (pa_cons (pe_op op_add (pv 1) pe_int) pa_nil)))) (pa_cons (pv 3) pa_nil)))))
    pss_nil)
  (pss_cons (ps_expr (pe_appOf (pe_bm PySem.F.plainAttrs_list PySem.F.slot_list_append PySem.F.type_list_append mt_append (pe_map (pv 2)) (pa_cons (pe_map (pe_ix (ix_Kd T.kd_ESCAPES) (pe_glob (v := .ref (He.ga K "ESCAPES")) (by rfl) T.a_ESCAPES rfl) (pe_ix ix_str (pv 0) (pe_op op_add (pv 3) pe_int) (fun _ _ => rfl)) (fun _ _ => rfl))) pa_nil))))
  (pss_one (ps_aug (i := 3) sc_quoted_word.nd rfl (by first | exact Or.inl rfl | exact Or.inr rfl) pe_int ip_add))))
    (pss_one (ps_if (pt_not (pt_val (pe_callO (ok_is_text T) (hr.mono (by decide)) (pa_cons (pe_ix ix_str (pv 0) (pv 3) (fun _ _ => rfl)) pa_nil))))
    (pss_one (ps_ret (pe_tup (pa_cons (pe_tup (pa_cons pe_str (pa_cons (pe_op op_add (pv 3) pe_int) (pa_cons (pe_op op_add (pv 1) pe_int) pa_nil)))) (pa_cons (pv 3) pa_nil)))))
    (pss_cons (ps_expr (pe_appOf (pe_bm PySem.F.plainAttrs_list PySem.F.slot_list_append PySem.F.type_list_append mt_append (pe_map (pv 2)) (pa_cons (pe_map (pe_ix ix_str (pv 0) (pv 3) (fun _ _ => rfl))) pa_nil))))
  (pss_one (ps_aug (i := 3) sc_quoted_word.nd rfl (by first | exact Or.inl rfl | exact Or.inr rfl) pe_int ip_add))))))))
  (pss_cons (ps_if (pt_cmpR op_ge (pv 3) (pe_callB call_len_str (by rfl) T.n_len PySem.boot_len (pa_cons (pv 0) pa_nil)) (nomark _))
    (pss_one (ps_ret (pe_tup (pa_cons (pe_tup (pa_cons pe_str (pa_cons (pe_op op_add (pv 1) pe_int) (pa_cons (pe_op op_add (pv 1) pe_int) pa_nil)))) (pa_cons (pv 3) pa_nil)))))
    pss_nil)
  (pss_one (ps_ret (pe_tup (pa_cons (pe_tup (pa_cons pe_str (pa_cons (pe_joinL pe_str (pv 2)) (pa_cons (pe_op op_add (pv 1) pe_int) pa_nil)))) (pa_cons (pe_op op_add (pv 3) pe_int) pa_nil)))))))), ?_⟩
    show tSeq _ _ _ [some (.str (S l)), some (.int i), none, none] _
    walk_at "sx"
    intro F hF
    refine while_m (fun m σ H' => ∃ (j : Nat) (acc : List Nat), m = l.length - j ∧ j ≤ l.length ∧ acc.length ≤ j ∧ quo (i + 1) (l.drop (i + 1)) [] = quo j (l.drop j) acc ∧ Ex H H' ∧ H' F = some (.lst (acc.map fun c => .str (S [c]))) ∧
      σ = [some (.str (S l)), some (.int i), some (.ref F), some (.int j)]) (l.length - (i + 1)) ⟨i + 1, [], rfl, hil, Nat.zero_le _, rfl, Ex.new hF, upd_same, rfl⟩ ?_
    rintro m σ H' ⟨j, acc, rfl, hj, ha, hq, ex, hf, rfl⟩
    have hsz : l.length ≤ sizeLine := sz_of hl
    have hsz2 : (acc.map fun c => V.str (S [c])).length < sizeLine := by rw [List.length_map]; exact Nat.lt_of_le_of_lt (Nat.le_trans ha (Nat.le_trans hj hl)) (by decide)
    have fin : ∀ (q : Str × V × Nat), wordAt l i = q → ∀ H1, Ex H H1 → ∀ p, H1 p = none → ∀ p1, upd H1 p (.tup [.str q.1, q.2.1, .int (i + 1)]) p1 = none → Q (.ref p1) (upd (upd H1 p (.tup [.str q.1, q.2.1, .int (i + 1)])) p1 (.tup [.ref p, .int q.2.2])) := fun q e H1 e1 => by
      rw [e] at k
      exact two_tups e1 k
    have hw := wordAt_quo hi
    by_cases hjl : j < l.length
    · have hat : atI l (j : Int) = some l[j] := atI_of hjl
      have hlt : ((j : Int) < (l.length : Int)) = True := eq_true (by omega)
      have hdr := List.drop_eq_getElem_cons hjl
      generalize l[j] = c at hat hdr
      rw [hdr] at hq
      walk_at "sx"
      simp only [hat, hlt, hsz, hf, quote_codes, back_codes, n_codes, nl_codes, next_sign]
      walk_at "sx"
      by_cases c34 : c = 34
      · subst c34
        have hR : quo j (34 :: l.drop (j + 1)) acc = .ok acc j := by unfold quo; rfl
        rw [hq, hR] at hw
        rw [if_neg (by decide), if_neg (by omega)]
        refine ⟨acc.map fun c => S [c], by rw [List.map_map]; rfl, ?_, ?_⟩
        · rw [sum_signs, List.length_map, empty_codes]
          show acc.length + acc.length * 0 ≤ _
          omega
        · rw [empty_codes, join_signs]
          exact fin _ hw H' ex
      · rw [if_pos (by simp [c34])]
        by_cases c92 : c = 92
        · subst c92
          rw [if_pos rfl]
          cases hr : l.drop (j + 1) with
          | nil =>
            rw [hr] at hq
            have hR : quo j [92] acc = .bad j := by unfold quo; rfl
            rw [hq, hR] at hw
            show if (List.lookup (S []) escL).isSome = false then _ else _
            rw [esc_nil]
            exact fin _ hw H' ex
          | cons d r =>
            rw [hr] at hq
            have hj1 : j + 1 < l.length := by
              have := congrArg List.length hr
              rw [List.length_drop, List.length_cons] at this
              omega
            have hd : l[j + 1]? = some d := by
              have := congrArg (fun z : List Nat => z[0]?) hr
              simpa using this
            have hr2 : l.drop (j + 2) = r := by
              have := congrArg (List.drop 1) hr
              rw [List.drop_drop] at this
              exact this
            show if (List.lookup (S [d]) escL).isSome = false then _ else _
            rw [esc_lookup]
            cases he : esc? d with
            | none =>
              have hR : quo j (92 :: d :: r) acc = .bad j := by unfold quo; simp [he]
              rw [hq, hR] at hw
              exact fin _ hw H' ex
            | some e =>
              have hR : quo j (92 :: d :: r) acc = quo (j + 2) r (acc ++ [e]) := by
                rw [quo]; simp [he]
              rw [if_neg (by simp)]
              refine ⟨⟨_, rfl⟩, d, atI_eq (i := j + 1) (by omega) hd, .str (S [e]), ?_, hsz2, l.length - (j + 2), by omega, j + 2, rfl, hj1, acc ++ [e], ?_, ?_, Ex.mut ex hF, ?_, by omega⟩
              · have h2 := esc_lookup d
                rw [he] at h2
                exact h2
              · rw [List.length_append, List.length_singleton]
                omega
              · rw [hq, hR, hr2]
              · rw [List.map_append]
                rfl
        · rw [if_neg c92]
          refine ⟨[c], rfl, (by show 1 ≤ 100000; decide), fun H1 e1 => ?_⟩
          have e2 : [c].all sgn = sgn c := by simp
          rw [e2]
          refine ⟨_, rfl, ?_⟩
          cases hs : sgn c with
          | false =>
            have hR : quo j (c :: l.drop (j + 1)) acc = .bad j := by
              rw [quo.eq_def]; simp [c34, c92, hs]
            rw [hq, hR] at hw
            rw [if_pos rfl]
            exact fin _ hw H1 (ex.trans e1)
          | true =>
            have hR : quo j (c :: l.drop (j + 1)) acc = quo (j + 1) (l.drop (j + 1)) (acc ++ [c]) := by
              rw [quo.eq_def]; simp [c34, c92, hs]
            rw [if_neg (by decide)]
            refine ⟨⟨_, e1 _ _ hf⟩, _, e1 _ _ hf, hsz2, l.length - (j + 1), by omega, j + 1, rfl, hjl, acc ++ [c], ?_, ?_, Ex.mut (ex.trans e1) hF, ?_, by omega⟩
            · rw [List.length_append, List.length_singleton]
              omega
            · rw [hq, hR]
            · rw [List.map_append]
              rfl
    · have hlt : ((j : Int) < (l.length : Int)) = False := eq_false (by omega)
      walk_at "sx"
      simp only [hlt, hsz, hf]
      walk_at "sx"
      have ej : j = l.length := by omega
      rw [if_pos (by omega)]
      have hR : quo j (l.drop j) acc = .opn := by
        rw [List.drop_eq_nil_of_le (by omega)]
        unfold quo
        rfl
      rw [hq, hR] at hw
      rw [ej]
      exact fin _ hw H' ex
end
end K33

namespace K33
open PySem PySem.Spec PyProof.Rows L2 Evl Lay
local macro_rules | `(tactic| walk_at "sx") => `(tactic| simp only [CwR.tReplC, tDisp, tPairs, tBreak, tCont, at0, at1, at2, tSeq, tAsg, tVar, tC, tOp, tUn, rI, rI0, rU, tCB, tCons, tNil, tRet, tIfS, tTest, tB, tAnd, tOr, tNot, tAndV, tOrV, tNotV, tIf, tDGet, sDPut, gName, tNext, rEq, rNe, tDrop, tPar, tAug, tCall, tTup, tLst, tSl, tPart, tNoPart, tYes, tApp, tJoinL, tM1, tM0, tChain,
  tFor_eq, tLc_eq, iListT, iTupT, iRng1, iRng2, iStr, rIxL', rIxT', rIxS, rLenL', rLenT', rInt', rListL', rListT', rTupL', rInT', rInL', rSlL', rSlS, rMulS, rIsB, rInKd, rIxKd, rAllT', rLenX', rLenS', rIxX', reduceCtorEq, false_and, exists_false, or_false, false_or, exists_const, gTupT, gCons, gNil, rCat, dget_upd, dput_upd,
  List.getElem?_cons_zero, List.getElem?_cons_succ, Option.some.injEq, V.int.injEq, V.ref.injEq, V.str.injEq, V.bl.injEq, HO.lst.injEq, HO.tup.injEq, List.cons.injEq, List.cons_append, List.nil_append, List.append_nil,
  exists_eq_left', exists_eq_left, exists_and_left, exists_and_right, and_true, true_and, List.set_cons_zero, List.set_cons_succ, exists_eq_right, exists_eq_right', decide_eq_true_eq, Bool.false_eq_true, if_true, if_false, ite_true, ite_false, and_assoc,
  upd_same, pkv_len, pkv_cells, pkv_at, pkv_digits, pkv_count, pkv_fold, put_at, put_digits, put_count, put_fold, List.length_cons, List.length_nil, decide_true, decide_false, scal_i, scal_s, Nat.reduceAdd, List.map_cons, List.map_nil, HT.sIx_nat, HT.sIx_none, szl0, szl1, szl2, szl3, szl4, szl5, szl6, szl7, szl8, szl9, szl10, szl11, szl12, ipI, wipe, Bool.not_eq_true', Bool.not_true, Bool.not_false, S_eq, S_len, S_cps, S_app, S_cut, S_rep, tyN, tyO, ne_eq, not_false_eq_true, not_true_eq_false])
local macro_rules | `(tactic| walk_at "sy") => `(tactic| simp only [CwR.tReplC, tDisp, tPairs, tBreak, tCont, at0, at1, at2, tSeq, tAsg, tVar, tC, tOp, tUn, rI, rI0, rU, tCB, tCons, tNil, tRet, tIfS, tTest, tB, tAnd, tOr, tNot, tAndV, tOrV, tNotV, tIf, tDGet, sDPut, gName, tNext, rEq, rNe, tDrop, tPar, tAug, tCall, tTup, tLst, tSl, tPart, tNoPart, tYes, tApp, tJoinL, tM1, tM0, tChain,
  tFor_eq, tLc_eq, iListT, iTupT, iRng1, iRng2, iStr, rIxL', rIxT', rIxS, rLenL', rLenT', rInt', rListL', rListT', rTupL', rInT', rInL', rSlL', rSlS, rMulS, rIsB, rInKd, rIxKd, rAllT', rLenX', rLenS', rIxX', reduceCtorEq, false_and, exists_false, or_false, false_or, exists_const, gTupT, gCons, gNil, rCat, dget_upd, dput_upd,
  List.getElem?_cons_zero, List.getElem?_cons_succ, Option.some.injEq, V.int.injEq, V.ref.injEq, V.str.injEq, V.bl.injEq, HO.lst.injEq, HO.tup.injEq, List.cons.injEq, List.cons_append, List.nil_append, List.append_nil,
  exists_eq_left', exists_eq_left, exists_and_left, exists_and_right, and_true, true_and, List.set_cons_zero, List.set_cons_succ, exists_eq_right, exists_eq_right', decide_eq_true_eq, Bool.false_eq_true, if_true, if_false, ite_true, ite_false, and_assoc,
  upd_same, pkv_len, pkv_cells, pkv_at, pkv_digits, pkv_count, pkv_fold, put_at, put_digits, put_count, put_fold, List.length_cons, List.length_nil, decide_true, decide_false, scal_i, scal_s, Nat.reduceAdd, List.map_cons, List.map_nil, HT.sIx_nat, HT.sIx_none, szl0, szl1, szl2, szl3, szl4, szl5, szl6, szl7, szl8, szl9, szl10, szl11, szl12, ipI, wipe, Bool.not_eq_true', Bool.not_true, Bool.not_false, S_eq, S_len, S_cps, S_app, S_cut, S_rep, tyN, tyO, ne_eq, not_false_eq_true, not_true_eq_false, *])

section
variable {P : Program} {w : World} {K : PySem.W.Frag} {mg : Str → Option Value} {base : Heap}
def spWord : Sp := fun vs H Q _ => ∃ (l : List Nat) (i : Nat), vs = [.str (S l), .int i] ∧ l.length ≤ 100000 ∧ i < l.length ∧
  ∀ t u H', Ex H H' → H' u = some (.tup [.str (wordAt l i).1, (wordAt l i).2.1, .int (i + 1)]) → H' t = some (.tup [.ref u, .int (wordAt l i).2.2]) → Q (.ref t) H'
theorem ok_word_at (T : Txt w K mg) : Ok P w K mg base CX0 4 "word_at" ["line", "start"] spWord := by
  refine T.d_word_at.ok sc_word_at (fun _ _ _ _ _ _ us hl => match us, hl with | [_, _], _ => rfl) (fun vs H Q E h => ?_) (fun cdv A outer s H vs Q E hr h => ?_)
  · obtain ⟨l, i, rfl, _⟩ := h
    rfl
  · obtain ⟨l, i, rfl, hl, hil, k⟩ := h
    refine ⟨_, (pss_cons (ps_set (i := 2) sc_word_at.nd rfl (by first | exact Or.inl rfl | exact Or.inr rfl) (pe_ix ix_str (pv 0) (pv 1) (fun _ _ => rfl)))
  (pss_cons (ps_if (pt_cmpR op_in_sign (pv 2) (pe_globC T.g_LETTERS) (by rfl))
    (pss_cons (ps_set (i := 3) sc_word_at.nd rfl (by first | exact Or.inl rfl | exact Or.inr rfl) (pe_callO (ok_run_end T) (hr.mono (by decide)) (pa_cons (pv 0) (pa_cons (pv 1) (pa_cons (pe_globC T.g_LETTERS) pa_nil)))))
  (pss_one (ps_ret (pe_tup (pa_cons (pe_tup (pa_cons pe_str (pa_cons (pe_slice sl_str (pv 0) (po_some (pv 1)) (po_some (pv 3))) (pa_cons (pe_op op_add (pv 1) pe_int) pa_nil)))) (pa_cons (pv 3) pa_nil))))))
    pss_nil)
  (pss_cons (ps_if (pt_cmpR op_in_sign (pv 2) (pe_globC T.g_FIGURES) (by rfl))
    (pss_one (ps_ret (pe_callO (ok_number_word T) (hr.mono (by decide)) (pa_cons (pv 0) (pa_cons (pv 1) pa_nil)))))
    pss_nil)
  (pss_cons (ps_if (pt_cmpR op_eq (pv 2) pe_str (nomark _))
    (pss_one (ps_ret (pe_callO (ok_quoted_word T) (hr.mono (by decide)) (pa_cons (pv 0) (pa_cons (pv 1) pa_nil)))))
    pss_nil)
  (pss_cons (ps_if (pt_cmpR op_in_sign (pv 2) pe_str (by rfl))
    (pss_one (ps_ret (pe_tup (pa_cons (pe_tup (pa_cons pe_str (pa_cons (pv 2) (pa_cons (pe_op op_add (pv 1) pe_int) pa_nil)))) (pa_cons (pe_op op_add (pv 1) pe_int) pa_nil)))))
    pss_nil)
  (pss_one (ps_ret (pe_tup (pa_cons (pe_tup (pa_cons pe_str (pa_cons (pe_op op_add (pv 1) pe_int) (pa_cons (pe_op op_add (pv 1) pe_int) pa_nil)))) (pa_cons (pe_op op_add (pv 1) pe_int) pa_nil)))))))))), ?_⟩
    show tSeq _ _ _ [some (.str (S l)), some (.int i), none, none] _
    have hsz : l.length ≤ sizeLine := sz_of hl
    have hat : atI l (i : Int) = some l[i] := atI_of hil
    have hi : l[i]? = some l[i] := List.getElem?_eq_getElem hil
    generalize l[i] = c at hat hi
    have fin : ∀ (q : Str × V × Nat), wordAt l i = q → ∀ H1, Ex H H1 → ∀ p, H1 p = none → ∀ p1, upd H1 p (.tup [.str q.1, q.2.1, .int (i + 1)]) p1 = none → Q (.ref p1) (upd (upd H1 p (.tup [.str q.1, q.2.1, .int (i + 1)])) p1 (.tup [.ref p, .int q.2.2])) := fun q e H1 e1 => by
      rw [e] at k
      exact two_tups e1 k
    have e0 : l.getD i 0 = c := by simp [List.getD, hi]
    walk_at "sx"
    simp only [hat, hsz, mem_L', mem_D', quote_codes, brackets_codes]
    walk_at "sx"
    cases hL : isL c with
    | true =>
      rw [if_pos rfl]
      have hle : runEnd l i isL ≤ l.length := runEnd_le (Nat.le_of_lt hil)
      refine ⟨l, _, isL, i, by rw [letters_codes], hl, Nat.le_of_lt hil, fun d => by rw [← mem_L, letters_codes], ?_⟩
      walk_at "sx"
      rw [Nat.min_eq_left hle, Nat.min_eq_left (Nat.le_of_lt hil)]
      refine fin ("name", .str (S ((l.drop i).take (runEnd l i isL - i))), runEnd l i isL) ?_ H (Ex.refl H)
      unfold wordAt
      simp only [e0, hL]
      rfl
    | false =>
      rw [if_neg (by decide)]
      cases hD : isD c with
      | true =>
        rw [if_pos rfl]
        exact ⟨l, i, c, rfl, hl, hi, hD, k⟩
      | false =>
        rw [if_neg (by decide)]
        by_cases c34 : c = 34
        · rw [if_pos c34]
          exact ⟨l, i, rfl, hl, by rw [hi, c34], k⟩
        · rw [if_neg c34]
          by_cases cb : c = 40 ∨ c = 41
          · rw [if_pos (by simpa using cb)]
            refine fin ("bracket", .str (S [c]), i + 1) ?_ H (Ex.refl H)
            unfold wordAt
            simp only [e0, hL, hD, if_neg c34, if_pos cb]
            rfl
          · rw [if_neg (by simpa using cb)]
            refine fin ("bad sign", .int (i + 1), i + 1) ?_ H (Ex.refl H)
            unfold wordAt
            simp only [e0, hL, hD, if_neg c34, if_neg cb]
            rfl
def spWords : Sp := fun vs H Q _ => ∃ (l : List Nat) (ws : List (Str × V × Nat)), vs = [.str (S l)] ∧ l.length ≤ 50000 ∧ ws.length ≤ 50000 ∧ Lexes l (runEnd l 0 isB) ws ∧
  ∀ t refs H', Ex H H' → H' t = some (.tup refs) → Paired (tok H') refs ws → Q (.ref t) H'
theorem ok_line_words (T : Txt w K mg) : Ok P w K mg base CX0 5 "line_words" ["line"] spWords := by
  refine T.d_line_words.ok sc_line_words (fun _ _ _ _ _ _ us hl => match us, hl with | [_], _ => rfl) (fun vs H Q E h => ?_) (fun cdv A outer s H vs Q E hr h => ?_)
  · obtain ⟨l, ws, rfl, _⟩ := h
    rfl
  · obtain ⟨l, ws, rfl, hl, hw, hx, k⟩ := h
    refine ⟨_, (pss_cons (ps_par (i := 1) (j := 2) (by rfl) sc_line_words.nd rfl rfl (by decide) rfl rfl (pa_cons (pe_lst pa_nil) (pa_cons (pe_callO (ok_run_end T) (hr.mono (by decide)) (pa_cons (pv 0) (pa_cons pe_int (pa_cons pe_str pa_nil)))) pa_nil)) (by rfl))
  (pss_cons (ps_while PassesOwn.never (pt_map (pt_cmpR op_lt (pv 2) (pe_callB call_len_str (by rfl) T.n_len PySem.boot_len (pa_cons (pv 0) pa_nil)) (nomark _)))
    (pss_cons (ps_asg (pe_callO (ok_word_at T) (hr.mono (by decide)) (pa_cons (pv 0) (pa_cons (pv 2) pa_nil))) (pg_tupT (n := 2) (by rfl) (pgs_cons (pg_name (i := 3) sc_line_words.nd rfl (by first | exact Or.inl rfl | exact Or.inr rfl)) (pgs_cons (pg_name (i := 2) sc_line_words.nd rfl (by first | exact Or.inl rfl | exact Or.inr rfl)) pgs_nil))))
  (pss_cons (ps_expr (pe_appOf (pe_bm PySem.F.plainAttrs_list PySem.F.slot_list_append PySem.F.type_list_append mt_append (pe_map (pv 1)) (pa_cons (pe_map (pv 3)) pa_nil))))
  (pss_cons (ps_if (pt_val (pe_m1 PySem.F.slot_str_startswith PySem.F.type_str_startswith mt_startswith (pe_ix ix_tT (pv 3) pe_int (fun _ _ => rfl)) pe_str))
    (pss_one ps_break)
    pss_nil)
  (pss_one (ps_set (i := 2) sc_line_words.nd rfl (by first | exact Or.inl rfl | exact Or.inr rfl) (pe_callO (ok_run_end T) (hr.mono (by decide)) (pa_cons (pv 0) (pa_cons (pv 2) (pa_cons pe_str pa_nil))))))))))
  (pss_one (ps_ret (pe_callTy call_tupL (by rfl) T.n_tuple (by decide +kernel) (pa_cons (pv 1) pa_nil)))))), ?_⟩
    show tSeq _ _ _ [some (.str (S l)), none, none, none] _
    have hsz : l.length ≤ sizeLine := sz_of (by omega)
    walk_at "sx"
    intro F hF
    refine ⟨l, _, isB, 0, by rw [blank_codes]; rfl, by omega, Nat.zero_le _, isB_mem, ?_⟩
    walk_at "sx"
    refine while_m (fun m σ H' => ∃ (done rest : List (Str × V × Nat)) (refs : List V) (j : Nat) (x : Option V), m = rest.length ∧ ws = done ++ rest ∧ j ≤ l.length ∧ Lexes l j rest ∧ Ex H H' ∧ H' F = some (.lst refs) ∧ Paired (tok H') refs done ∧
      σ = [some (.str (S l)), some (.ref F), some (.int j), x]) ws.length ⟨[], ws, [], _, none, rfl, rfl, runEnd_le (Nat.zero_le _), hx, Ex.new hF, upd_same, .nil, rfl⟩ ?_
    rintro m σ H' ⟨done, rest, refs, j, x, rfl, ew, hj, hlx, ex, hf, hp, rfl⟩
    walk_at "sx"
    simp only [hsz]
    walk_at "sx"
    have hrl : refs.length < sizeLine := by
      rw [hp.length]
      rw [ew, List.length_append] at hw
      exact sz_lt (by omega)
    cases hlx with
    | done =>
      rw [if_neg (by omega)]
      refine ⟨refs, hf, fun t ht => ?_⟩
      rw [List.append_nil] at ew
      rw [ew] at k
      exact k t refs _ (ex.trans (Ex.new ht)) upd_same (Paired.imp (fun r q ⟨a, e, h⟩ => ⟨a, e, Ex.new ht _ _ h⟩) hp)
    | bad hjl hb =>
      rw [if_pos (by omega)]
      refine ⟨l, j, rfl, by omega, hjl, fun t u H1 e1 hu ht => ?_⟩
      have nuF : u ≠ F := ne_of hu (e1 _ _ hf) (by intro q; cases q)
      refine ⟨t, rfl, _, ht, rfl, _, _, rfl, _, _, rfl, rfl, ⟨_, e1 _ _ hf⟩, _, e1 _ _ hf, hrl, u, rfl, _, by rw [upd_ne nuF]; exact hu, ?_⟩
      walk_at "sx"
      refine ⟨⟨_, rfl⟩, ?_⟩
      rw [if_pos (show Txt.startswith (wordAt l j).1 (Str.ofString "bad ") = true from hb)]
      intro z hz
      refine k z _ _ ((Ex.mut (ex.trans e1) hF).trans (Ex.new hz)) upd_same ?_
      rw [ew]
      exact Paired.imp (fun _ _ h => tok_ex (Ex.new hz) h) (Paired.app (Paired.imp (fun _ _ h => tok_upd (e1 _ _ hf) (tok_ex e1 h)) hp) (.cons ⟨u, rfl, by rw [upd_ne nuF]; exact hu⟩ .nil))
    | @more _ ws' hjl hb he hrx =>
      rw [if_pos (by omega)]
      refine ⟨l, j, rfl, by omega, hjl, fun t u H1 e1 hu ht => ?_⟩
      have nuF : u ≠ F := ne_of hu (e1 _ _ hf) (by intro q; cases q)
      refine ⟨t, rfl, _, ht, rfl, _, _, rfl, _, _, rfl, rfl, ⟨_, e1 _ _ hf⟩, _, e1 _ _ hf, hrl, u, rfl, _, by rw [upd_ne nuF]; exact hu, ?_⟩
      walk_at "sx"
      refine ⟨⟨_, rfl⟩, ?_⟩
      rw [if_neg (show ¬ Txt.startswith (wordAt l j).1 (Str.ofString "bad ") = true from fun z => by rw [show Txt.startswith (wordAt l j).1 (Str.ofString "bad ") = false from hb] at z; cases z)]
      refine ⟨l, _, isB, (wordAt l j).2.2, by rw [blank_codes], by omega, he, isB_mem, ?_⟩
      refine ⟨ws'.length, by simp, done ++ [((wordAt l j).1, (wordAt l j).2.1, j)], ws', rfl, by rw [ew, List.append_assoc]; rfl, refs ++ [.ref u], runEnd l (wordAt l j).2.2 isB, runEnd_le he, hrx, Ex.mut (ex.trans e1) hF, upd_same, ?_, rfl, _, rfl⟩
      exact Paired.app (Paired.imp (fun _ _ h => tok_upd (e1 _ _ hf) (tok_ex e1 h)) hp) (.cons ⟨u, rfl, by rw [upd_ne nuF]; exact hu⟩ .nil)
end
end K33

namespace K33
open PySem PySem.Spec PyProof.Rows L2 Evl Lay
local macro_rules | `(tactic| walk_at "sx") => `(tactic| simp only [CwR.tReplC, tDisp, tPairs, tBreak, tCont, at0, at1, at2, tSeq, tAsg, tVar, tC, tOp, tUn, rI, rI0, rU, tCB, tCons, tNil, tRet, tIfS, tTest, tB, tAnd, tOr, tNot, tAndV, tOrV, tNotV, tIf, tDGet, sDPut, gName, tNext, rEq, rNe, tDrop, tPar, tAug, tCall, tTup, tLst, tSl, tPart, tNoPart, tYes, tApp, tJoinL, tM1, tM0, tChain,
  tFor_eq, tLc_eq, iListT, iTupT, iRng1, iRng2, iStr, rIxL', rIxT', rIxS, rLenL', rLenT', rInt', rListL', rListT', rTupL', rInT', rInL', rSlL', rSlS, rMulS, rIsB, rInKd, rIxKd, rAllT', rLenX', rLenS', rIxX', reduceCtorEq, false_and, exists_false, or_false, false_or, exists_const, gTupT, gCons, gNil, rCat, dget_upd, dput_upd,
  List.getElem?_cons_zero, List.getElem?_cons_succ, Option.some.injEq, V.int.injEq, V.ref.injEq, V.str.injEq, V.bl.injEq, HO.lst.injEq, HO.tup.injEq, List.cons.injEq, List.cons_append, List.nil_append, List.append_nil,
  exists_eq_left', exists_eq_left, exists_and_left, exists_and_right, and_true, true_and, List.set_cons_zero, List.set_cons_succ, exists_eq_right, exists_eq_right', decide_eq_true_eq, Bool.false_eq_true, if_true, if_false, ite_true, ite_false, and_assoc,
  upd_same, pkv_len, pkv_cells, pkv_at, pkv_digits, pkv_count, pkv_fold, put_at, put_digits, put_count, put_fold, List.length_cons, List.length_nil, decide_true, decide_false, scal_i, scal_s, Nat.reduceAdd, List.map_cons, List.map_nil, HT.sIx_nat, HT.sIx_none, szl0, szl1, szl2, szl3, szl4, szl5, szl6, szl7, szl8, szl9, szl10, szl11, szl12, ipI, wipe, Bool.not_eq_true', Bool.not_true, Bool.not_false, S_eq, S_len, S_cps, S_app, S_cut, S_rep, tyN, tyO, ne_eq, not_false_eq_true, not_true_eq_false])
local macro_rules | `(tactic| walk_at "sy") => `(tactic| simp only [CwR.tReplC, tDisp, tPairs, tBreak, tCont, at0, at1, at2, tSeq, tAsg, tVar, tC, tOp, tUn, rI, rI0, rU, tCB, tCons, tNil, tRet, tIfS, tTest, tB, tAnd, tOr, tNot, tAndV, tOrV, tNotV, tIf, tDGet, sDPut, gName, tNext, rEq, rNe, tDrop, tPar, tAug, tCall, tTup, tLst, tSl, tPart, tNoPart, tYes, tApp, tJoinL, tM1, tM0, tChain,
  tFor_eq, tLc_eq, iListT, iTupT, iRng1, iRng2, iStr, rIxL', rIxT', rIxS, rLenL', rLenT', rInt', rListL', rListT', rTupL', rInT', rInL', rSlL', rSlS, rMulS, rIsB, rInKd, rIxKd, rAllT', rLenX', rLenS', rIxX', reduceCtorEq, false_and, exists_false, or_false, false_or, exists_const, gTupT, gCons, gNil, rCat, dget_upd, dput_upd,
  List.getElem?_cons_zero, List.getElem?_cons_succ, Option.some.injEq, V.int.injEq, V.ref.injEq, V.str.injEq, V.bl.injEq, HO.lst.injEq, HO.tup.injEq, List.cons.injEq, List.cons_append, List.nil_append, List.append_nil,
  exists_eq_left', exists_eq_left, exists_and_left, exists_and_right, and_true, true_and, List.set_cons_zero, List.set_cons_succ, exists_eq_right, exists_eq_right', decide_eq_true_eq, Bool.false_eq_true, if_true, if_false, ite_true, ite_false, and_assoc,
  upd_same, pkv_len, pkv_cells, pkv_at, pkv_digits, pkv_count, pkv_fold, put_at, put_digits, put_count, put_fold, List.length_cons, List.length_nil, decide_true, decide_false, scal_i, scal_s, Nat.reduceAdd, List.map_cons, List.map_nil, HT.sIx_nat, HT.sIx_none, szl0, szl1, szl2, szl3, szl4, szl5, szl6, szl7, szl8, szl9, szl10, szl11, szl12, ipI, wipe, Bool.not_eq_true', Bool.not_true, Bool.not_false, S_eq, S_len, S_cps, S_app, S_cut, S_rep, tyN, tyO, ne_eq, not_false_eq_true, not_true_eq_false, *])

section
variable {P : Program} {w : World} {K : PySem.W.Frag} {mg : Str → Option Value} {base : Heap}
theorem ok_Ldraw (T : Txt w K mg) : Ok P w K mg base CX0 1 "_law_draw" ["_law_pen_here", "_law_many"] spDraw := by
  refine T.d_Ldraw.ok sc_Ldraw (fun _ _ _ _ _ _ us hl => match us, hl with | [_, _], _ => rfl) (fun vs H Q E h => ?_) (fun cdv A outer s H vs Q E hr h => ?_)
  · obtain ⟨p, l, m, c, rfl, _⟩ := h
    rfl
  · obtain ⟨p, l, m, c, rfl, ⟨cells, a, d, n, f, hp, hl, a0, d0, n0, n1, f0, f1⟩, hc, m0, m1, k⟩ := h
    have nlp : l ≠ p := ne_of hl hp (by intro q; cases q)
    have z5 : ∀ {l : Addr} {a d c f : Int}, (pkv l a d c f).length < sizeLine := by intros; exact (by decide : 5 < sizeLine)
    have hL : ∀ o, (upd H p o) l = some (.lst (cells.map V.int)) := fun o => by rw [upd_ne nlp]; exact hl
    refine ⟨_, (pss_cons (ps_dput (hu_of hr) (pv 0) pe_str (pe_op op_add (pe_dget (hu_of hr) (pv 0) pe_str (fun _ _ => rfl)) pe_int) rfl)
  (pss_cons (ps_if (PW.pt (pw_and (pt_cmpR op_eq (pe_dget (hu_of hr) (pv 0) pe_str (fun _ _ => rfl)) pe_int (nomark _)) (pw_and1 (pt_cmpR op_lt (pe_dget (hu_of hr) (pv 0) pe_str (fun _ _ => rfl)) (pe_callB call_lenL (by rfl) T.n_len PySem.boot_len (pa_cons (pe_dget (hu_of hr) (pv 0) pe_str (fun _ _ => rfl)) pa_nil)) (nomark _)))))
    (pss_cons (ps_set (i := 2) sc_Ldraw.nd rfl (by first | exact Or.inl rfl | exact Or.inr rfl) (pe_ix ix_lT (pe_dget (hu_of hr) (pv 0) pe_str (fun _ _ => rfl)) (pe_dget (hu_of hr) (pv 0) pe_str (fun _ _ => rfl)) (fun _ _ => rfl)))
  (pss_cons (ps_dput (hu_of hr) (pv 0) pe_str (pe_op op_add (pe_dget (hu_of hr) (pv 0) pe_str (fun _ _ => rfl)) pe_int) rfl)
  (pss_one (ps_if (pt_cmpR op_ge (pv 2) (pe_op op_pow pe_int pe_int) (nomark _))
    (pss_one (ps_dput (hu_of hr) (pv 0) pe_str (pe_op op_sub (pv 2) (pe_op op_pow pe_int pe_int)) rfl))
    (pss_one (ps_dput (hu_of hr) (pv 0) pe_str (pe_op op_mod (pe_callTy call_intI (by rfl) T.n_int (by decide +kernel) (pa_cons (pe_op op_add (pe_op op_mul (pe_dget (hu_of hr) (pv 0) pe_str (fun _ _ => rfl)) pe_int) (pv 2)) pa_nil)) pe_int) rfl))))))
    pss_nil)
  (pss_cons (ps_if (pt_cmpR op_gt (pe_dget (hu_of hr) (pv 0) pe_str (fun _ _ => rfl)) pe_int (nomark _))
    (pss_cons (ps_set (i := 3) sc_Ldraw.nd rfl (by first | exact Or.inl rfl | exact Or.inr rfl) (pe_op op_mod (pe_callTy call_intI (by rfl) T.n_int (by decide +kernel) (pa_cons (pe_dget (hu_of hr) (pv 0) pe_str (fun _ _ => rfl)) pa_nil)) (pv 1)))
  (pss_cons (ps_dput (hu_of hr) (pv 0) pe_str (pe_op op_fdivW (pe_dget (hu_of hr) (pv 0) pe_str (fun _ _ => rfl)) (pv 1)) rfl)
  (pss_one (ps_ret (pv 3)))))
    pss_nil)
  (pss_cons (ps_set (i := 4) sc_Ldraw.nd rfl (by first | exact Or.inl rfl | exact Or.inr rfl) (pe_op op_add (pe_op op_add (pe_dget (hu_of hr) (pv 0) pe_str (fun _ _ => rfl)) (pe_op op_mul (pe_dget (hu_of hr) (pv 0) pe_str (fun _ _ => rfl)) pe_int)) pe_int))
  (pss_one (ps_ret (pe_op op_mod (pe_op op_fdivW (pe_callTy call_intI (by rfl) T.n_int (by decide +kernel) (pa_cons (pe_op op_mod (pe_op op_pow (pv 4) pe_int) pe_int) pa_nil)) pe_int) (pv 1)))))))), ?_⟩
    show tSeq _ _ _ [some (.ref p), some (.int m), none, none, none] _
    have g1 := fun z r => dget_str (z := z) (r := r) hp
    have g2 := fun z v H' => dput_str (z := z) (v := v) (H' := H') hp
    walk_at "sy"
    have fin : ∀ a' d' n' f' v : Int, 0 ≤ a' → 0 ≤ d' → 0 ≤ n' → n' ≤ c + 1 → 0 ≤ f' → f' < 2147483587 → 0 ≤ v → v < m → Q (V.int v) (upd H p (HO.dK (pkv l a' d' n' f'))) := fun a' d' n' f' v h1 h2 h3 h4 h5 h6 h7 h8 =>
      k v _ h7 h8 ⟨.upd _ _ _, cells, a', d', n', f', upd_same, hL _, h1, h2, h3, h4, h5, h6⟩
    have hdw : ∀ x, CDivW x m := fun x => wide_div (b := 61) m0 (by omega) (by decide) (by decide)
    have hd8 : ∀ x, CDivW x 128 := fun x => wide_div (b := 61) (by decide) (by decide) (by decide) (by decide)
    have tail : ∀ a' f' : Int, 0 ≤ a' → 0 ≤ f' → f' < 2147483587 → ∀ d', 0 ≤ d' → CMul (n + 1) 7907 ∧ CPow (f' + (n + 1) * 7907 + 37) 17 ∧ 0 < (2305843009213693951 : Int) ∧ CDivW ((f' + (n + 1) * 7907 + 37) ^ Int.toNat 17 % 2305843009213693951) 128 ∧
        Q (V.int ((f' + (n + 1) * 7907 + 37) ^ Int.toNat 17 % 2305843009213693951 / 128 % m)) (upd H p (HO.dK (pkv l a' d' (n + 1) f'))) := fun a' f' h1 h2 h3 d' h4 =>
      ⟨.inl ⟨by omega, by omega⟩, ⟨by decide, by decide, by omega⟩, by decide, hd8 _, fin _ _ _ _ _ h1 h4 (by omega) (by omega) h2 h3 (Int.emod_nonneg _ (by omega)) (Int.emod_lt_of_pos _ m0)⟩
    have s5 : 5 < sizeLine := by decide
    have cp : CPow 10 18 := ⟨by decide, by decide, by decide⟩
    refine ⟨s5, ?_⟩
    by_cases hd : d = 0
    · subst hd
      rw [if_pos rfl]
      by_cases ha : a < ((cells.map V.int).length : Int)
      · rw [if_pos ha]
        obtain ⟨z, hz⟩ : ∃ z, atI (List.map V.int cells) a = some (.int z) := by
          rw [List.length_map] at ha
          refine ⟨cells[a.toNat]'(by omega), ?_⟩
          refine at_of (j := a.toNat) (by omega) ?_
          rw [List.getElem?_map, List.getElem?_eq_getElem (by omega)]
          rfl
        rw [hz]
        refine ⟨.int z, rfl, s5, cp, z, rfl, ?_⟩
        by_cases hx : (10 : Int) ^ Int.toNat 18 ≤ z
        · rw [if_pos hx]
          refine ⟨cp, z, rfl, s5, ?_⟩
          by_cases hg : 0 < z - (10 : Int) ^ Int.toNat 18
          · rw [if_pos hg]
            exact ⟨hdw _, s5, fin _ _ _ _ _ (by omega) (Int.ediv_nonneg (by omega) (by omega)) (by omega) (by omega) f0 f1 (Int.emod_nonneg _ (by omega)) (Int.emod_lt_of_pos _ m0)⟩
          · rw [if_neg hg]
            exact tail _ _ (by omega) f0 f1 _ (by omega)
        · rw [if_neg hx]
          refine ⟨.inl ⟨by omega, by omega⟩, z, rfl, by decide, s5, ?_⟩
          rw [if_neg (show ¬ (0 : Int) < 0 by decide)]
          exact tail _ _ (by omega) (Int.emod_nonneg _ (by decide)) (Int.emod_lt_of_pos _ (by decide)) _ (by decide)
      · rw [if_neg ha, if_neg (show ¬ (0 : Int) < 0 by decide)]
        exact tail _ _ a0 f0 f1 _ (by decide)
    · rw [if_neg hd, if_pos (by omega)]
      exact ⟨hdw _, s5, fin _ _ _ _ _ a0 (Int.ediv_nonneg (by omega) (by omega)) (by omega) (by omega) f0 f1 (Int.emod_nonneg _ (by omega)) (Int.emod_lt_of_pos _ m0)⟩
theorem ok_Lpick (T : Txt w K mg) : Ok P w K mg base CX0 2 "_law_pick" ["_law_pen_here", "_law_some"] spPick := by
  refine T.d_Lpick.ok sc_Lpick (fun _ _ _ _ _ _ us hl => match us, hl with | [_, _], _ => rfl) (fun vs H Q E h => ?_) (fun cdv A outer s H vs Q E hr h => ?_)
  · obtain ⟨p, l, c, z, rfl, _⟩ := h
    rfl
  · obtain ⟨p, l, c, z, rfl, hP, hc, k⟩ := h
    refine ⟨_, (pss_one (ps_ret (pe_ix ix_X (pv 1) (pe_callO (ok_Ldraw T) (hr.mono (by decide)) (pa_cons (pv 0) (pa_cons (pe_callB call_lenX (by rfl) T.n_len PySem.boot_len (pa_cons (pv 1) pa_nil)) pa_nil))) (fun _ _ => rfl)))), ?_⟩
    show tRet _ _ [some (.ref p), some z] _
    rcases k with ⟨z, rfl, hz, hl, k⟩ | ⟨a, xs, rfl, ha, hx, hl, k⟩
    · have hsz : z.length ≤ sizeLine := sz_of hl
      have hpos : 0 < z.length := List.length_pos_iff.mpr hz
      walk_at "sx"
      simp only [hsz]
      walk_at "sx"
      refine ⟨p, l, _, c, rfl, hP, hc, by omega, by omega, fun n H' h0 h1 d => ?_⟩
      walk_at "sx"
      refine ⟨z[n.toNat]'(by omega), atI_eq (i := n.toNat) (by omega) (List.getElem?_eq_getElem (by omega)), ?_⟩
      exact k _ H' (List.getElem_mem _) d
    · have hpos : 0 < xs.length := List.length_pos_iff.mpr hx
      have nap : a ≠ p := by
        rcases ha with ha | ha
        · exact hP.nlst ha
        · exact hP.ntup ha
      rcases ha with ha | ha
      · walk_at "sx"
        simp only [ha]
        walk_at "sx"
        refine ⟨p, l, _, c, rfl, hP, hc, by omega, by omega, fun n H' h0 h1 d => ?_⟩
        have ha' := d.1 _ _ nap ha
        simp only [ha']
        walk_at "sx"
        exact ⟨xs[n.toNat]'(by omega), atI_eq (i := n.toNat) (by omega) (List.getElem?_eq_getElem (by omega)), k _ H' (List.getElem_mem _) d⟩
      · walk_at "sx"
        simp only [ha]
        walk_at "sx"
        refine ⟨p, l, _, c, rfl, hP, hc, by omega, by omega, fun n H' h0 h1 d => ?_⟩
        have ha' := d.1 _ _ nap ha
        simp only [ha']
        walk_at "sx"
        exact ⟨xs[n.toNat]'(by omega), atI_eq (i := n.toNat) (by omega) (List.getElem?_eq_getElem (by omega)), k _ H' (List.getElem_mem _) d⟩
def spPen (K : PySem.W.Frag) : Sp := fun vs H Q _ => ∃ (a : Addr) (ns : List Int), vs = [.ref a] ∧ SqL K H a (ns.map V.int) ∧ ns.length ≤ 63 ∧ ∀ p l H', Ex H H' → Pen H' p l 0 → H p = none → Q (.ref p) H'
theorem ok_Lpen (T : Txt w K mg) : Ok P w K mg base CX0 1 "_law_pen" ["_law_script"] (spPen K) := by
  refine T.d_Lpen.ok sc_Lpen (fun _ _ _ _ _ _ us hl => match us, hl with | [_], _ => rfl) (fun vs H Q E h => ?_) (fun cdv A outer s H vs Q E hr h => ?_)
  · obtain ⟨a, ns, rfl, _⟩ := h
    rfl
  · obtain ⟨a, ns, rfl, hS, hn, k⟩ := h
    refine ⟨_, (pss_cons (ps_set (i := 1) sc_Lpen.nd rfl (by first | exact Or.inl rfl | exact Or.inr rfl) pe_int)
  (pss_cons (ps_for PassesOwn.never rfl (pi_list (pv 0)) (pg_name (i := 2) sc_Lpen.nd rfl (by first | exact Or.inl rfl | exact Or.inr rfl))
    (pss_one (ps_set (i := 1) sc_Lpen.nd rfl (by first | exact Or.inl rfl | exact Or.inr rfl) (pe_op op_mod (pe_callTy call_intI (by rfl) T.n_int (by decide +kernel) (pa_cons (pe_op op_add (pe_op op_mul (pv 1) pe_int) (pv 2)) pa_nil)) pe_int))))
  (pss_one (ps_ret (pe_disp (pps_cons pe_str (pe_callTy call_list_of (by rfl) T.n_list (by decide +kernel) (pa_cons (pv 0) pa_nil)) (pps_cons pe_str pe_int (pps_cons pe_str pe_int (pps_cons pe_str pe_int (pps_cons pe_str (pv 1) pps_nil))))) (by rfl) (by rfl) (fun z => by cases z) (by decide)))))), ?_⟩
    show tSeq _ _ _ [some (.ref a), none, none] _
    walk_at "sx"
    refine ⟨_, rfl, a, rfl, ⟨_, hS⟩, lp_by (walks_list (ns.map V.int)) (fun i σ H' => H' = H ∧ ∃ (f : Int) (x : Option V), 0 ≤ f ∧ f < 1000000007 ∧ σ = [some (.ref a), some (.int f), x]) ⟨rfl, 0, none, by decide, by decide, rfl⟩ (fun i σ H' _ ⟨e, _⟩ => by rw [e]; exact hS) ?_ ?_⟩
    · rintro i σ H' hi ⟨rfl, f, x, f0, f1, rfl⟩
      rw [List.length_map] at hi
      have e : (ns.map V.int).getD i .non = .int ns[i] := by
        rw [List.getD, List.getElem?_map, List.getElem?_eq_getElem hi]
        rfl
      simp only [e]
      walk_at "sx"
      exact ⟨.inl ⟨by omega, by omega⟩, by decide, _, Int.emod_nonneg _ (by decide), Int.emod_lt_of_pos _ (by decide), rfl, _, rfl⟩
    · rintro σ H' ⟨rfl, f, x, f0, f1, rfl⟩
      walk_at "sx"
      intro p hp
      refine ⟨ns.map V.int, .inl (ex_l (Ex.new hp) hS), fun l hl => ?_⟩
      have nlp : p ≠ l := fun z => by rw [← z, upd_same] at hl; cases hl
      refine ⟨by rw [upd_ne nlp, upd_same], pkv l 0 0 0 f, rfl, (by show 5 ≤ 15; decide), ?_⟩
      have hl0 : H' l = none := by rw [upd_ne nlp.symm] at hl; exact hl
      have em : mergeK [] (pkv l 0 0 0 f) = pkv l 0 0 0 f := rfl
      rw [em]
      exact k p l _ (((Ex.new hp).trans (Ex.new hl)).mut hp) ⟨ns, 0, 0, 0, f, upd_same, by rw [upd_ne nlp.symm, upd_same], by decide, by decide, by decide, by decide, f0, by omega⟩ hp
end
end K33

namespace K33
open PySem PySem.Spec PyProof.Rows L2 Evl Lay
local macro_rules | `(tactic| walk_at "sx") => `(tactic| simp only [CwR.tReplC, tDisp, tPairs, tBreak, tCont, at0, at1, at2, tSeq, tAsg, tVar, tC, tOp, tUn, rI, rI0, rU, tCB, tCons, tNil, tRet, tIfS, tTest, tB, tAnd, tOr, tNot, tAndV, tOrV, tNotV, tIf, tDGet, sDPut, gName, tNext, rEq, rNe, tDrop, tPar, tAug, tCall, tTup, tLst, tSl, tPart, tNoPart, tYes, tApp, tJoinL, tM1, tM0, tChain,
  tFor_eq, tLc_eq, iListT, iTupT, iRng1, iRng2, iStr, rIxL', rIxT', rIxS, rLenL', rLenT', rInt', rListL', rListT', rTupL', rInT', rInL', rSlL', rSlS, rMulS, rIsB, rInKd, rIxKd, rAllT', rLenX', rLenS', rIxX', reduceCtorEq, false_and, exists_false, or_false, false_or, exists_const, gTupT, gCons, gNil, rCat, dget_upd, dput_upd,
  List.getElem?_cons_zero, List.getElem?_cons_succ, Option.some.injEq, V.int.injEq, V.ref.injEq, V.str.injEq, V.bl.injEq, HO.lst.injEq, HO.tup.injEq, List.cons.injEq, List.cons_append, List.nil_append, List.append_nil,
  exists_eq_left', exists_eq_left, exists_and_left, exists_and_right, and_true, true_and, List.set_cons_zero, List.set_cons_succ, exists_eq_right, exists_eq_right', decide_eq_true_eq, Bool.false_eq_true, if_true, if_false, ite_true, ite_false, and_assoc,
  upd_same, pkv_len, pkv_cells, pkv_at, pkv_digits, pkv_count, pkv_fold, put_at, put_digits, put_count, put_fold, List.length_cons, List.length_nil, decide_true, decide_false, scal_i, scal_s, Nat.reduceAdd, List.map_cons, List.map_nil, HT.sIx_nat, HT.sIx_none, szl0, szl1, szl2, szl3, szl4, szl5, szl6, szl7, szl8, szl9, szl10, szl11, szl12, ipI, wipe, Bool.not_eq_true', Bool.not_true, Bool.not_false, S_eq, S_len, S_cps, S_app, S_cut, S_rep, tyN, tyO, ne_eq, not_false_eq_true, not_true_eq_false])
local macro_rules | `(tactic| walk_at "sy") => `(tactic| simp only [CwR.tReplC, tDisp, tPairs, tBreak, tCont, at0, at1, at2, tSeq, tAsg, tVar, tC, tOp, tUn, rI, rI0, rU, tCB, tCons, tNil, tRet, tIfS, tTest, tB, tAnd, tOr, tNot, tAndV, tOrV, tNotV, tIf, tDGet, sDPut, gName, tNext, rEq, rNe, tDrop, tPar, tAug, tCall, tTup, tLst, tSl, tPart, tNoPart, tYes, tApp, tJoinL, tM1, tM0, tChain,
  tFor_eq, tLc_eq, iListT, iTupT, iRng1, iRng2, iStr, rIxL', rIxT', rIxS, rLenL', rLenT', rInt', rListL', rListT', rTupL', rInT', rInL', rSlL', rSlS, rMulS, rIsB, rInKd, rIxKd, rAllT', rLenX', rLenS', rIxX', reduceCtorEq, false_and, exists_false, or_false, false_or, exists_const, gTupT, gCons, gNil, rCat, dget_upd, dput_upd,
  List.getElem?_cons_zero, List.getElem?_cons_succ, Option.some.injEq, V.int.injEq, V.ref.injEq, V.str.injEq, V.bl.injEq, HO.lst.injEq, HO.tup.injEq, List.cons.injEq, List.cons_append, List.nil_append, List.append_nil,
  exists_eq_left', exists_eq_left, exists_and_left, exists_and_right, and_true, true_and, List.set_cons_zero, List.set_cons_succ, exists_eq_right, exists_eq_right', decide_eq_true_eq, Bool.false_eq_true, if_true, if_false, ite_true, ite_false, and_assoc,
  upd_same, pkv_len, pkv_cells, pkv_at, pkv_digits, pkv_count, pkv_fold, put_at, put_digits, put_count, put_fold, List.length_cons, List.length_nil, decide_true, decide_false, scal_i, scal_s, Nat.reduceAdd, List.map_cons, List.map_nil, HT.sIx_nat, HT.sIx_none, szl0, szl1, szl2, szl3, szl4, szl5, szl6, szl7, szl8, szl9, szl10, szl11, szl12, ipI, wipe, Bool.not_eq_true', Bool.not_true, Bool.not_false, S_eq, S_len, S_cps, S_app, S_cut, S_rep, tyN, tyO, ne_eq, not_false_eq_true, not_true_eq_false, *])

section
variable {P : Program} {w : World} {K : PySem.W.Frag} {mg : Str → Option Value} {base : Heap}
def spQuoted : Sp := fun vs H Q _ => ∃ l : List Nat, vs = [.str (S l)] ∧ l.length ≤ 1000 ∧ Q (.str (S (quoted l))) H
theorem ok_quoted_text (T : Txt w K mg) : Ok P w K mg base CX0 1 "quoted_text" ["word"] spQuoted := by
  refine T.d_quoted_text.okT sc_quoted_text (fun _ _ _ _ _ _ us hl => match us, hl with | [_], _ => rfl) (by decide +kernel) (by decide) (fun vs H Q E h => ?_) (fun cdv A outer s H vs Q E hr h => ?_)
  · obtain ⟨l, rfl, _⟩ := h
    rfl
  · obtain ⟨l, rfl, hl, k⟩ := h
    refine ⟨_, psst_cons (pst_asg (i := 1) sc_quoted_text.nd rfl (Or.inl rfl) (CwR.pet_replT (CwR.pet_replT (CwR.pet_replC (pv 0))))) (CwR.psst_one (PST.of (ps_ret (pe_op op_add_str (pe_op op_add_str pe_str (pv 1)) pe_str)))), ?_⟩
    show tSeq _ _ _ [some (.str (S l)), none] _
    walk_at "sx"
    simp only [back_codes, bb_codes, quote_codes, bq_codes, nl_codes, bn_codes, replace_one, three]
    walk_at "sx"
    have h1 := rep1_len 92 [92, 92] l rfl
    have h2 := rep1_len 34 [92, 34] (rep1 92 [92, 92] l) rfl
    have h3 := rep1_len 10 [92, 110] (rep1 34 [92, 34] (rep1 92 [92, 92] l)) rfl
    rw [three] at h3
    exact ⟨by omega, by omega, by omega, sz_of (by omega), sz_of (by omega), k⟩
theorem ok_Lquoted (T : Txt w K mg) : Ok P w K mg base CX0 1 "_law_quoted" ["_law_word"] spQuoted := by
  refine T.d_Lquoted.okT sc_Lquoted (fun _ _ _ _ _ _ us hl => match us, hl with | [_], _ => rfl) (by decide +kernel) (by decide) (fun vs H Q E h => ?_) (fun cdv A outer s H vs Q E hr h => ?_)
  · obtain ⟨l, rfl, _⟩ := h
    rfl
  · obtain ⟨l, rfl, hl, k⟩ := h
    refine ⟨_, CwR.psst_one (CwR.pst_ret (CwR.pet_op op_add_str (CwR.pet_op op_add_str (CwR.PET.of pe_str) (CwR.pet_replT (CwR.pet_replT (CwR.pet_replC (pv 0))))) (CwR.PET.of pe_str))), ?_⟩
    show tRet _ _ [some (.str (S l))] _
    walk_at "sx"
    simp only [back_codes, bb_codes, quote_codes, bq_codes, nl_codes, bn_codes, replace_one, three]
    walk_at "sx"
    have h1 := rep1_len 92 [92, 92] l rfl
    have h2 := rep1_len 34 [92, 34] (rep1 92 [92, 92] l) rfl
    have h3 := rep1_len 10 [92, 110] (rep1 34 [92, 34] (rep1 92 [92, 92] l)) rfl
    rw [three] at h3
    exact ⟨by omega, by omega, by omega, sz_of (by omega), sz_of (by omega), k⟩
end
end K33

namespace K33
open PySem PySem.Spec PyProof.Rows L2 Evl Lay
local macro_rules | `(tactic| walk_at "sx") => `(tactic| simp only [CwR.tReplC, tDisp, tPairs, tBreak, tCont, at0, at1, at2, tSeq, tAsg, tVar, tC, tOp, tUn, rI, rI0, rU, tCB, tCons, tNil, tRet, tIfS, tTest, tB, tAnd, tOr, tNot, tAndV, tOrV, tNotV, tIf, tDGet, sDPut, gName, tNext, rEq, rNe, tDrop, tPar, tAug, tCall, tTup, tLst, tSl, tPart, tNoPart, tYes, tApp, tJoinL, tM1, tM0, tChain,
  tFor_eq, tLc_eq, iListT, iTupT, iRng1, iRng2, iStr, rIxL', rIxT', rIxS, rLenL', rLenT', rInt', rListL', rListT', rTupL', rInT', rInL', rSlL', rSlS, rMulS, rIsB, rInKd, rIxKd, rAllT', rLenX', rLenS', rIxX', reduceCtorEq, false_and, exists_false, or_false, false_or, exists_const, gTupT, gCons, gNil, rCat, dget_upd, dput_upd,
  List.getElem?_cons_zero, List.getElem?_cons_succ, Option.some.injEq, V.int.injEq, V.ref.injEq, V.str.injEq, V.bl.injEq, HO.lst.injEq, HO.tup.injEq, List.cons.injEq, List.cons_append, List.nil_append, List.append_nil,
  exists_eq_left', exists_eq_left, exists_and_left, exists_and_right, and_true, true_and, List.set_cons_zero, List.set_cons_succ, exists_eq_right, exists_eq_right', decide_eq_true_eq, Bool.false_eq_true, if_true, if_false, ite_true, ite_false, and_assoc,
  upd_same, pkv_len, pkv_cells, pkv_at, pkv_digits, pkv_count, pkv_fold, put_at, put_digits, put_count, put_fold, List.length_cons, List.length_nil, decide_true, decide_false, scal_i, scal_s, Nat.reduceAdd, List.map_cons, List.map_nil, HT.sIx_nat, HT.sIx_none, szl0, szl1, szl2, szl3, szl4, szl5, szl6, szl7, szl8, szl9, szl10, szl11, szl12, ipI, wipe, Bool.not_eq_true', Bool.not_true, Bool.not_false, S_eq, S_len, S_cps, S_app, S_cut, S_rep, tyN, tyO, ne_eq, not_false_eq_true, not_true_eq_false])
local macro_rules | `(tactic| walk_at "sy") => `(tactic| simp only [CwR.tReplC, tDisp, tPairs, tBreak, tCont, at0, at1, at2, tSeq, tAsg, tVar, tC, tOp, tUn, rI, rI0, rU, tCB, tCons, tNil, tRet, tIfS, tTest, tB, tAnd, tOr, tNot, tAndV, tOrV, tNotV, tIf, tDGet, sDPut, gName, tNext, rEq, rNe, tDrop, tPar, tAug, tCall, tTup, tLst, tSl, tPart, tNoPart, tYes, tApp, tJoinL, tM1, tM0, tChain,
  tFor_eq, tLc_eq, iListT, iTupT, iRng1, iRng2, iStr, rIxL', rIxT', rIxS, rLenL', rLenT', rInt', rListL', rListT', rTupL', rInT', rInL', rSlL', rSlS, rMulS, rIsB, rInKd, rIxKd, rAllT', rLenX', rLenS', rIxX', reduceCtorEq, false_and, exists_false, or_false, false_or, exists_const, gTupT, gCons, gNil, rCat, dget_upd, dput_upd,
  List.getElem?_cons_zero, List.getElem?_cons_succ, Option.some.injEq, V.int.injEq, V.ref.injEq, V.str.injEq, V.bl.injEq, HO.lst.injEq, HO.tup.injEq, List.cons.injEq, List.cons_append, List.nil_append, List.append_nil,
  exists_eq_left', exists_eq_left, exists_and_left, exists_and_right, and_true, true_and, List.set_cons_zero, List.set_cons_succ, exists_eq_right, exists_eq_right', decide_eq_true_eq, Bool.false_eq_true, if_true, if_false, ite_true, ite_false, and_assoc,
  upd_same, pkv_len, pkv_cells, pkv_at, pkv_digits, pkv_count, pkv_fold, put_at, put_digits, put_count, put_fold, List.length_cons, List.length_nil, decide_true, decide_false, scal_i, scal_s, Nat.reduceAdd, List.map_cons, List.map_nil, HT.sIx_nat, HT.sIx_none, szl0, szl1, szl2, szl3, szl4, szl5, szl6, szl7, szl8, szl9, szl10, szl11, szl12, ipI, wipe, Bool.not_eq_true', Bool.not_true, Bool.not_false, S_eq, S_len, S_cps, S_app, S_cut, S_rep, tyN, tyO, ne_eq, not_false_eq_true, not_true_eq_false, *])

section
variable {P : Program} {w : World} {K : PySem.W.Frag} {mg : Str → Option Value} {base : Heap}
def spAllS : Sp := fun vs H Q _ => vs = [] ∧ Q (.str (S allS)) H
theorem ok_Lall_signs (T : Txt w K mg) : Ok P w K mg base CX0 1 "_law_all_signs" [] spAllS := by
  refine T.d_Lall_signs.ok sc_Lall_signs (fun _ _ _ _ _ _ us hl => match us, hl with | [], _ => rfl) (fun vs H Q E h => ?_) (fun cdv A outer s H vs Q E hr h => ?_)
  · obtain ⟨rfl, _⟩ := h
    rfl
  · obtain ⟨rfl, k⟩ := h
    refine ⟨_, (pss_one (ps_ret pe_str)), ?_⟩
    walk_at "sx"
    have e : (S allS) = Str.ofString " !#$&'()*+,-./0123456789:;<=>?@ABCDEFGHIJKLMNOPQRSTUVWXYZ[\\]^_`abcdefghijklmnopqrstuvwxyz{|}~" := by decide +kernel
    rw [e] at k
    exact k
def spAnySign : Sp := fun vs H Q _ => ∃ (p l : Addr) (c : Int), vs = [.ref p, .bl false] ∧ Pen H p l c ∧ c < 2 ^ 39 ∧ ∀ ch H', sgn ch = true → Drawn p l (c + 2) H H' → Q (.str (S [ch])) H'
theorem ok_Lany_sign (T : Txt w K mg) : Ok P w K mg base CX0 3 "_law_any_sign" ["_law_pen_here", "_law_line"] spAnySign := by
  refine T.d_Lany_sign.ok sc_Lany_sign (fun _ _ _ _ _ _ us hl => match us, hl with | [_, _], _ => rfl) (fun vs H Q E h => ?_) (fun cdv A outer s H vs Q E hr h => ?_)
  · obtain ⟨p, l, c, rfl, _⟩ := h
    rfl
  · obtain ⟨p, l, c, rfl, hP, hc, k⟩ := h
    refine ⟨_, (pss_cons (ps_set (i := 2) sc_Lany_sign.nd rfl (by first | exact Or.inl rfl | exact Or.inr rfl) (pe_callO (ok_Ldraw T) (hr.mono (by decide)) (pa_cons (pv 0) (pa_cons pe_int pa_nil))))
  (pss_cons (ps_if (pt_cmpR op_lt (pv 2) pe_int (nomark _))
    (pss_one (ps_ret (pe_ifExp (pt_cmpR op_eq (pv 2) pe_int (nomark _)) pe_str pe_str)))
    pss_nil)
  (pss_cons (ps_if (PW.pt (pw_and (pt_cmpR op_eq (pv 2) pe_int (nomark _)) (pw_and1 (pt_not (pt_val (pv 1))))))
    (pss_one (ps_ret pe_str))
    pss_nil)
  (pss_one (ps_ret (pe_callO (ok_Lpick T) (hr.mono (by decide)) (pa_cons (pv 0) (pa_cons (pe_callO0 (ok_Lall_signs T) (hr.mono (by decide))) pa_nil)))))))), ?_⟩
    show tSeq _ _ _ [some (.ref p), some (.bl false), none] _
    walk_at "sx"
    refine ⟨p, l, _, c, rfl, hP, by omega, by decide, by decide, fun n H1 h0 h1 d1 => ?_⟩
    walk_at "sx"
    simp only [quote_codes, back_codes, nl_codes]
    have k0 : ∀ ch, sgn ch = true → Q (.str (S [ch])) H1 := fun ch h => k ch H1 h (d1.mono (by omega))
    by_cases c1 : n < 2
    · rw [if_pos c1]
      by_cases c2 : n = 0
      · rw [if_pos c2]; exact k0 _ (by decide)
      · rw [if_neg c2]; exact k0 _ (by decide)
    · rw [if_neg c1]
      by_cases c2 : n = 2
      · rw [if_pos c2]; exact k0 _ (by decide)
      · rw [if_neg c2]
        refine ⟨rfl, p, l, c + 1, _, rfl, d1.2, by omega, .inl ⟨allS, rfl, by decide, by decide, fun ch H2 hm d2 => ?_⟩⟩
        exact k ch H2 (allS_sgn hm) ((d1.trans d2).mono (by omega))
def spAnyWord : Sp := fun vs H Q _ => ∃ (p l : Addr) (c : Int) (m : Int), vs = [.ref p, .int 0, .int m, .bl false] ∧ 0 ≤ m ∧ m ≤ 40 ∧ Pen H p l c ∧ c < 2 ^ 38 ∧ ∀ z H', z.length ≤ 40 → (∀ ch ∈ z, sgn ch = true) → Drawn p l (c + 100) H H' → Q (.str (S z)) H'
theorem ok_Lany_word (T : Txt w K mg) : Ok P w K mg base CX0 4 "_law_any_word" ["_law_pen_here", "_law_least", "_law_most", "_law_line"] spAnyWord := by
  refine T.d_Lany_word.ok sc_Lany_word (fun _ _ _ _ _ _ us hl => match us, hl with | [_, _, _, _], _ => rfl) (fun vs H Q E h => ?_) (fun cdv A outer s H vs Q E hr h => ?_)
  · obtain ⟨p, l, c, m, rfl, _⟩ := h
    rfl
  · obtain ⟨p, l, c, m, rfl, m0, m1, hP, hc, k⟩ := h
    refine ⟨_, (pss_one (ps_ret (pe_joinL pe_str (pe_lc (own := [("_law_k", 4)]) rfl sc_Lany_word.nd (pi_range1 (by rfl) T.n_range (pa_cons (pe_op op_add (pv 1) (pe_callO (ok_Ldraw T) (hr.mono (by decide)) (pa_cons (pv 0) (pa_cons (pe_op op_add (pe_op op_sub (pv 2) (pv 1)) pe_int) pa_nil)))) pa_nil)) (blkOk_by (own := [("_law_k", 4)]) (N := N_Lany_word) (sc := defScope s_Lany_word) (by decide +kernel)) (fun _ _ _ _ _ => (pg_name (i := 4) sc_Lany_word.nd rfl (by first | exact Or.inl rfl | exact Or.inr rfl))) (fun _ _ _ _ _ => pts_nil) (fun _ _ _ _ _ => (pe_callO (ok_Lany_sign T) (hr.mono (by decide)) (pa_cons (pv 0) (pa_cons (pv 3) pa_nil)))))))), ?_⟩
    show tRet _ _ [some (.ref p), some (.int 0), some (.int m), some (.bl false), none] _
    walk_at "sx"
    refine ⟨p, l, _, c, rfl, hP, by omega, by omega, by omega, fun n H1 h0 h1 d1 => ?_⟩
    refine ⟨n, rfl, by omega, by omega, fun D hD => ?_⟩
    refine join_draw (walks_range 0 _) (k := 2) (fun ch => sgn ch = true) (by omega) d1.2 hD (fun _ => rfl) ?_ ?_
    · intro i H Q' hi ex hp kk
      walk_at "sx"
      exact ⟨p, l, _, rfl, hp, by omega, kk⟩
    · intro zs H' e hz d
      exact k zs H' (by omega) hz ((d1.trans d).mono (by omega))
def spAnyName : Sp := fun vs H Q _ => ∃ (p l : Addr) (c : Int), vs = [.ref p] ∧ Pen H p l c ∧ c < 2 ^ 38 ∧ ∀ z H', z ≠ [] → z.length ≤ 40 → (∀ ch ∈ z, isL ch = true) → Drawn p l (c + 100) H H' → Q (.str (S z)) H'
theorem ok_Lany_name (T : Txt w K mg) : Ok P w K mg base CX0 4 "_law_any_name" ["_law_pen_here"] spAnyName := by
  refine T.d_Lany_name.ok sc_Lany_name (fun _ _ _ _ _ _ us hl => match us, hl with | [_], _ => rfl) (fun vs H Q E h => ?_) (fun cdv A outer s H vs Q E hr h => ?_)
  · obtain ⟨p, l, c, rfl, _⟩ := h
    rfl
  · obtain ⟨p, l, c, rfl, hP, hc, k⟩ := h
    refine ⟨_, (pss_one (ps_ret (pe_joinL pe_str (pe_lc (own := [("_law_k", 1)]) rfl sc_Lany_name.nd (pi_range1 (by rfl) T.n_range (pa_cons (pe_op op_add pe_int (pe_callO (ok_Ldraw T) (hr.mono (by decide)) (pa_cons (pv 0) (pa_cons pe_int pa_nil)))) pa_nil)) (blkOk_by (own := [("_law_k", 1)]) (N := N_Lany_name) (sc := defScope s_Lany_name) (by decide +kernel)) (fun _ _ _ _ _ => (pg_name (i := 1) sc_Lany_name.nd rfl (by first | exact Or.inl rfl | exact Or.inr rfl))) (fun _ _ _ _ _ => pts_nil) (fun _ _ _ _ _ => (pe_callO (ok_Lpick T) (hr.mono (by decide)) (pa_cons (pv 0) (pa_cons pe_str pa_nil)))))))), ?_⟩
    show tRet _ _ [some (.ref p), none] _
    walk_at "sx"
    refine ⟨p, l, _, c, rfl, hP, by omega, by omega, by omega, fun n H1 h0 h1 d1 => ?_⟩
    refine ⟨n, rfl, by omega, by omega, fun D hD => ?_⟩
    refine join_draw (walks_range 0 _) (k := 1) (fun ch => isL ch = true) (by omega) d1.2 hD (fun _ => rfl) ?_ ?_
    · intro i H Q' hi ex hp kk
      walk_at "sx"
      refine ⟨p, l, _, _, rfl, hp, by omega, .inl ⟨List.range' 97 26, by rw [letters_codes], by decide, by decide, fun ch H' hm d => kk ch H' ?_ d⟩⟩
      rw [← mem_L', letters_codes]
      exact hm
    · intro zs H' e hz d
      refine k zs H' (fun z => ?_) (by omega) hz ((d1.trans d).mono (by omega))
      rw [z] at e
      have : (0 : Nat) = (1 + n).toNat := e
      omega
end
end K33

namespace K33
open PySem L2 Lay
/-! Lines of words: gaps and words, one behind another. -/
abbrev Gw := Nat × List Nat
def blanks (n : Nat) : List Nat := List.replicate n 32
def body (ps : List Gw) : List Nat := ps.flatMap fun p => blanks p.1 ++ p.2
def place : Nat → List Gw → List Nat
  | _, [] => []
  | i, p :: r => (i + p.1) :: place (i + p.1 + p.2.length) r
/-- the last sign of a and the first one of b are letters both, or figures both -/
def same (a b : List Nat) : Prop := ∃ x y, a.getLast? = some x ∧ b.head? = some y ∧ ((isL x = true ∧ isL y = true) ∨ (isD x = true ∧ isD y = true))
def Seps : List Gw → Prop
  | [] => True
  | [_] => True
  | p :: q :: r => (same p.2 q.2 → 1 ≤ q.1) ∧ Seps (q :: r)
theorem body_snoc (ps : List Gw) (p : Gw) : body (ps ++ [p]) = body ps ++ (blanks p.1 ++ p.2) := by
  unfold body
  rw [List.flatMap_append]
  simp
theorem place_snoc : ∀ (i : Nat) (ps : List Gw) (p : Gw), place i (ps ++ [p]) = place i ps ++ [i + (body ps).length + p.1]
  | i, [], p => by simp [place, body]
  | i, q :: r, p => by
    show (i + q.1) :: place (i + q.1 + q.2.length) (r ++ [p]) = (i + q.1) :: place (i + q.1 + q.2.length) r ++ _
    rw [place_snoc]
    show _ = (i + q.1) :: (place (i + q.1 + q.2.length) r ++ _)
    congr 3
    have e : body (q :: r) = (blanks q.1 ++ q.2) ++ body r := rfl
    rw [e, List.length_append, List.length_append]
    unfold blanks
    rw [List.length_replicate]
    omega
theorem seps_snoc : ∀ (ps : List Gw) (p : Gw), Seps ps → (∀ q, ps.getLast? = some q → same q.2 p.2 → 1 ≤ p.1) → Seps (ps ++ [p])
  | [], p, _, _ => trivial
  | [q], p, _, h => ⟨h q rfl, trivial⟩
  | q :: q2 :: r, p, hs, h => ⟨hs.1, seps_snoc (q2 :: r) p hs.2 fun z hz => h z (by rw [List.getLast?_cons_cons]; exact hz)⟩
theorem body_len_le (m : Nat) : ∀ ps : List Gw, (∀ p ∈ ps, p.1 + p.2.length ≤ m) → (body ps).length ≤ ps.length * m
  | [], _ => Nat.zero_le _
  | p :: r, h => by
    have ih := body_len_le m r fun q hq => h q (List.mem_cons_of_mem _ hq)
    have h0 := h p List.mem_cons_self
    have e : body (p :: r) = (blanks p.1 ++ p.2) ++ body r := rfl
    rw [e, List.length_append, List.length_append, List.length_cons, Nat.add_mul]
    unfold blanks
    rw [List.length_replicate]
    omega
theorem repL_blank (n : Nat) : repL [32] n = blanks n := by
  unfold repL blanks
  induction n with
  | zero => rfl
  | succ n ih => rw [List.replicate_succ, List.flatten_cons, ih, List.replicate_succ]; rfl
theorem blanks_len (n : Nat) : (blanks n).length = n := List.length_replicate
theorem last_at {l : List Nat} {x : Nat} (h : l.getLast? = some x) : atI l (-1) = some x := by
  have hn : l ≠ [] := fun z => by rw [z] at h; cases h
  have hl : 0 < l.length := List.length_pos_iff.mpr hn
  unfold atI ixN
  rw [if_neg (by decide), if_pos (by omega)]
  show l[(-1 + (l.length : Int)).toNat]? = some x
  have e : (-1 + (l.length : Int)).toNat = l.length - 1 := by omega
  rw [e, ← List.getLast?_eq_getElem?]
  exact h
theorem last_some {l : List Nat} (h : l ≠ []) : ∃ x, l.getLast? = some x ∧ x ∈ l := ⟨l.getLast h, List.getLast?_eq_some_getLast h, List.getLast_mem h⟩
theorem head_some {l : List Nat} (h : l ≠ []) : ∃ x, l.head? = some x ∧ atI l 0 = some x := by
  cases l with
  | nil => exact absurd rfl h
  | cons c r => exact ⟨c, rfl, at0⟩
theorem place_len : ∀ (i : Nat) (ps : List Gw), (place i ps).length = ps.length
  | _, [] => rfl
  | i, p :: r => congrArg Nat.succ (place_len _ r)
theorem mem_rL (c : Nat) : c ∈ List.range' 97 26 ↔ isL c = true := by
  rw [← mem_L', letters_codes]
theorem mem_rD (c : Nat) : c ∈ List.range' 48 10 ↔ isD c = true := by
  rw [← mem_D', figures_codes]
/-! ### right words and wrong ones -/
inductive Right : Str → V → List Nat → Prop where
  | name {z : List Nat} (h : z ≠ []) (hl : z.length ≤ 40) (ha : ∀ c ∈ z, isL c = true) : Right "name" (.str (S z)) z
  | num {n : Nat} (h : n < 10 ^ 9) : Right "number" (.int n) (TL.numL n)
  | quo {z : List Nat} (hl : z.length ≤ 40) (ha : ∀ c ∈ z, sgn c = true) : Right "quoted" (.str (S z)) (quoted z)
  | br {c : Nat} (h : c = 40 ∨ c = 41) : Right "bracket" (.str (S [c])) [c]
/-- kind, the place of the fault, how it is written -/
inductive Wrong : Str → Int → List Nat → Prop where
  | zero {n : Nat} (h : n < 1000) : Wrong "bad number" 1 (48 :: TL.numL n)
  | long {d k : Nat} (h1 : 1 ≤ d) (h2 : d ≤ 9) (h3 : k ≤ 2) : Wrong "bad number" 9 ((48 + d) :: (List.range' 48 9 ++ List.replicate k 57))
  | esc {z : List Nat} {c : Nat} (hl : z.length ≤ 40) (ha : ∀ c ∈ z, sgn c = true) (h : esc? c = none) (hb : c < 128) : Wrong "bad quoted" ((34 :: z.flatMap escape).length : Nat) (34 :: z.flatMap escape ++ [92, c, 110, 34])
  | tab {z : List Nat} (hl : z.length ≤ 40) (ha : ∀ c ∈ z, sgn c = true) : Wrong "bad quoted" ((34 :: z.flatMap escape).length : Nat) (34 :: z.flatMap escape ++ [9, 34])
  | opn {z : List Nat} (hl : z.length ≤ 40) (ha : ∀ c ∈ z, sgn c = true ∧ c ≠ 34 ∧ c ≠ 92) : Wrong "bad quoted" 0 (34 :: z)
  | back {z : List Nat} (hl : z.length ≤ 40) (ha : ∀ c ∈ z, sgn c = true ∧ c ≠ 34 ∧ c ≠ 92) : Wrong "bad quoted" ((34 :: z).length : Nat) (34 :: z ++ [92])
  | sign {c : Nat} (h1 : isL c = false) (h2 : isD c = false) (h3 : c ≠ 34) (h4 : c ≠ 40) (h5 : c ≠ 41) (h6 : c ≠ 32) (hb : c < 128) : Wrong "bad sign" 0 [c]
theorem plain_codes : (Str.ofString "a 0n()~;") = S [97, 32, 48, 110, 40, 41, 126, 59] := by decide +kernel
theorem bad_esc_codes : (Str.ofString "tabN 0'(") = S [116, 97, 98, 78, 32, 48, 39, 40] := by decide +kernel
theorem nq_codes : (Str.ofString "n\"") = S [110, 34] := by decide +kernel
theorem tab_codes : (Str.ofString "\t") = S [9] := by decide +kernel
theorem nine_codes : (Str.ofString "012345678") = S (List.range' 48 9) := by decide +kernel
theorem n9_codes : (Str.ofString "9") = S [57] := by decide +kernel
theorem repL_one (c n : Nat) : repL [c] n = List.replicate n c := by
  unfold repL
  induction n with
  | zero => rfl
  | succ n ih => rw [List.replicate_succ, List.flatten_cons, ih, List.replicate_succ]; rfl
theorem quoted_cut (z : List Nat) : (List.take (HT.sIx (quoted z).length (quoted z).length (some (-1)) - HT.sIx (quoted z).length 0 none) (List.drop (HT.sIx (quoted z).length 0 none) (quoted z))) = 34 :: z.flatMap escape := by
  have e : (quoted z).length = (z.flatMap escape).length + 2 := by unfold quoted; rw [List.length_append, List.length_cons]; rfl
  have e1 : HT.sIx (quoted z).length (quoted z).length (some (-1)) = (quoted z).length - 1 := by
    show (if (-1 : Int) < 0 then (-1 + ((quoted z).length : Int)).toNat else min (-1 : Int).toNat (quoted z).length) = _
    rw [if_pos (by decide)]
    omega
  rw [e1, HT.sIx_none, List.drop_zero, Nat.sub_zero, e]
  unfold quoted
  have : (z.flatMap escape).length + 2 - 1 = (34 :: z.flatMap escape).length := rfl
  rw [this, List.take_left]
theorem escape_len (z : List Nat) : (z.flatMap escape).length ≤ 2 * z.length := by
  rw [← three]
  have h1 := rep1_len 92 [92, 92] z rfl
  induction z with
  | nil => exact Nat.le_refl _
  | cons c r ih =>
    rw [three] at ih ⊢
    rw [List.flatMap_cons, List.length_append, List.length_cons]
    have ih := ih (rep1_len 92 [92, 92] r rfl)
    have hc : (escape c).length ≤ 2 := by
      unfold escape
      split
      · exact Nat.le_refl _
      · split
        · exact Nat.le_refl _
        · split
          · exact Nat.le_refl _
          · exact Nat.le_succ 1
    omega
theorem quoted_len (z : List Nat) : (quoted z).length ≤ 2 * z.length + 2 := by
  have := escape_len z
  unfold quoted
  rw [List.length_append, List.length_cons]
  show _ + 1 + 1 ≤ _
  omega
end K33

namespace K33
open PySem PySem.Spec PyProof.Rows L2 Evl Lay
local macro_rules | `(tactic| walk_at "sx") => `(tactic| simp only [CwR.tReplC, tDisp, tPairs, tBreak, tCont, at0, at1, at2, tSeq, tAsg, tVar, tC, tOp, tUn, rI, rI0, rU, tCB, tCons, tNil, tRet, tIfS, tTest, tB, tAnd, tOr, tNot, tAndV, tOrV, tNotV, tIf, tDGet, sDPut, gName, tNext, rEq, rNe, tDrop, tPar, tAug, tCall, tTup, tLst, tSl, tPart, tNoPart, tYes, tApp, tJoinL, tM1, tM0, tChain,
  tFor_eq, tLc_eq, iListT, iTupT, iRng1, iRng2, iStr, rIxL', rIxT', rIxS, rLenL', rLenT', rInt', rListL', rListT', rTupL', rInT', rInL', rSlL', rSlS, rMulS, rIsB, rInKd, rIxKd, rAllT', rLenX', rLenS', rIxX', reduceCtorEq, false_and, exists_false, or_false, false_or, exists_const, gTupT, gCons, gNil, rCat, dget_upd, dput_upd,
  List.getElem?_cons_zero, List.getElem?_cons_succ, Option.some.injEq, V.int.injEq, V.ref.injEq, V.str.injEq, V.bl.injEq, HO.lst.injEq, HO.tup.injEq, List.cons.injEq, List.cons_append, List.nil_append, List.append_nil,
  exists_eq_left', exists_eq_left, exists_and_left, exists_and_right, and_true, true_and, List.set_cons_zero, List.set_cons_succ, exists_eq_right, exists_eq_right', decide_eq_true_eq, Bool.false_eq_true, if_true, if_false, ite_true, ite_false, and_assoc,
  upd_same, pkv_len, pkv_cells, pkv_at, pkv_digits, pkv_count, pkv_fold, put_at, put_digits, put_count, put_fold, List.length_cons, List.length_nil, decide_true, decide_false, scal_i, scal_s, Nat.reduceAdd, List.map_cons, List.map_nil, HT.sIx_nat, HT.sIx_none, szl0, szl1, szl2, szl3, szl4, szl5, szl6, szl7, szl8, szl9, szl10, szl11, szl12, ipI, wipe, Bool.not_eq_true', Bool.not_true, Bool.not_false, S_eq, S_len, S_cps, S_app, S_cut, S_rep, tyN, tyO, ne_eq, not_false_eq_true, not_true_eq_false])
local macro_rules | `(tactic| walk_at "sy") => `(tactic| simp only [CwR.tReplC, tDisp, tPairs, tBreak, tCont, at0, at1, at2, tSeq, tAsg, tVar, tC, tOp, tUn, rI, rI0, rU, tCB, tCons, tNil, tRet, tIfS, tTest, tB, tAnd, tOr, tNot, tAndV, tOrV, tNotV, tIf, tDGet, sDPut, gName, tNext, rEq, rNe, tDrop, tPar, tAug, tCall, tTup, tLst, tSl, tPart, tNoPart, tYes, tApp, tJoinL, tM1, tM0, tChain,
  tFor_eq, tLc_eq, iListT, iTupT, iRng1, iRng2, iStr, rIxL', rIxT', rIxS, rLenL', rLenT', rInt', rListL', rListT', rTupL', rInT', rInL', rSlL', rSlS, rMulS, rIsB, rInKd, rIxKd, rAllT', rLenX', rLenS', rIxX', reduceCtorEq, false_and, exists_false, or_false, false_or, exists_const, gTupT, gCons, gNil, rCat, dget_upd, dput_upd,
  List.getElem?_cons_zero, List.getElem?_cons_succ, Option.some.injEq, V.int.injEq, V.ref.injEq, V.str.injEq, V.bl.injEq, HO.lst.injEq, HO.tup.injEq, List.cons.injEq, List.cons_append, List.nil_append, List.append_nil,
  exists_eq_left', exists_eq_left, exists_and_left, exists_and_right, and_true, true_and, List.set_cons_zero, List.set_cons_succ, exists_eq_right, exists_eq_right', decide_eq_true_eq, Bool.false_eq_true, if_true, if_false, ite_true, ite_false, and_assoc,
  upd_same, pkv_len, pkv_cells, pkv_at, pkv_digits, pkv_count, pkv_fold, put_at, put_digits, put_count, put_fold, List.length_cons, List.length_nil, decide_true, decide_false, scal_i, scal_s, Nat.reduceAdd, List.map_cons, List.map_nil, HT.sIx_nat, HT.sIx_none, szl0, szl1, szl2, szl3, szl4, szl5, szl6, szl7, szl8, szl9, szl10, szl11, szl12, ipI, wipe, Bool.not_eq_true', Bool.not_true, Bool.not_false, S_eq, S_len, S_cps, S_app, S_cut, S_rep, tyN, tyO, ne_eq, not_false_eq_true, not_true_eq_false, *])

section
variable {P : Program} {w : World} {K : PySem.W.Frag} {mg : Str → Option Value} {base : Heap}
def spLine : Sp := fun vs H Q _ => ∃ (p l a : Addr) (c : Int) (ws : List (List Nat)), vs = [.ref p, .ref a] ∧ Pen H p l c ∧ c < 2 ^ 38 ∧ H a = some (.lst (ws.map fun z => .str (S z))) ∧ ws.length ≤ 10 ∧ (∀ z ∈ ws, z ≠ [] ∧ z.length ≤ 200) ∧
  ∀ (n t : Nat) (ps : List Gw) (tp cl : Addr) (H' : Hp), ps.map (·.2) = ws → Seps ps → n ≤ 2 → t ≤ 1 → (∀ q ∈ ps, q.1 ≤ 2) → Drawn p l (c + 20) H H' → H' cl = some (.lst ((place n ps).map fun x : Nat => V.int ((x : Int) + 1))) →
    H' tp = some (.tup [.str (S (blanks n ++ body ps ++ blanks t)), .ref cl]) → Q (.ref tp) H'
theorem ok_Lline_of_words (T : Txt w K mg) : Ok P w K mg base CX0 4 "_law_line_of_words" ["_law_pen_here", "_law_words"] spLine := by
  refine T.d_Lline_of_words.ok sc_Lline_of_words (fun _ _ _ _ _ _ us hl => match us, hl with | [_, _], _ => rfl) (fun vs H Q E h => ?_) (fun cdv A outer s H vs Q E hr h => ?_)
  · obtain ⟨p, l, a, c, ws, rfl, _⟩ := h
    rfl
  · obtain ⟨p, l, a, c, ws, rfl, hP, hc, ha, hw, hz, k⟩ := h
    refine ⟨_, (pss_cons (ps_asg (pe_tup (pa_cons pe_str (pa_cons pe_str pa_nil))) (pg_tupT (n := 2) (by rfl) (pgs_cons (pg_name (i := 2) sc_Lline_of_words.nd rfl (by first | exact Or.inl rfl | exact Or.inr rfl)) (pgs_cons (pg_name (i := 3) sc_Lline_of_words.nd rfl (by first | exact Or.inl rfl | exact Or.inr rfl)) pgs_nil))))
  (pss_cons (ps_par (i := 4) (j := 5) (by rfl) sc_Lline_of_words.nd rfl rfl (by decide) rfl rfl (pa_cons (pe_op op_mulS pe_str (pe_callO (ok_Ldraw T) (hr.mono (by decide)) (pa_cons (pv 0) (pa_cons pe_int pa_nil)))) (pa_cons (pe_lst pa_nil) pa_nil)) (by rfl))
  (pss_cons (ps_for PassesOwn.never rfl (pi_range1 (by rfl) T.n_range (pa_cons (pe_callB call_lenL (by rfl) T.n_len PySem.boot_len (pa_cons (pv 1) pa_nil)) pa_nil)) (pg_name (i := 6) sc_Lline_of_words.nd rfl (by first | exact Or.inl rfl | exact Or.inr rfl))
    (pss_cut (ps_if (pt_cmpR op_gt (pv 6) pe_int (nomark _))
    (pss_cons (ps_set (i := 7) sc_Lline_of_words.nd rfl (by first | exact Or.inl rfl | exact Or.inr rfl) pe_int)
  (pss_cons (ps_for PassesOwn.never rfl (pi_tT (pe_tup (pa_cons (pv 2) (pa_cons (pv 3) pa_nil)))) (pg_name (i := 8) sc_Lline_of_words.nd rfl (by first | exact Or.inl rfl | exact Or.inr rfl))
    (pss_one (ps_if (PW.pt (pw_and (pt_cmpR op_in_sign (pe_ix ix_str (pe_ix ix_lT (pv 1) (pe_op op_sub (pv 6) pe_int) (fun _ _ => rfl)) (pe_un un_neg pe_int) (fun _ _ => rfl)) (pv 8) (by rfl)) (pw_and1 (pt_cmpR op_in_sign (pe_ix ix_str (pe_ix ix_lT (pv 1) (pv 6) (fun _ _ => rfl)) pe_int (fun _ _ => rfl)) (pv 8) (by rfl)))))
    (pss_one (ps_set (i := 7) sc_Lline_of_words.nd rfl (by first | exact Or.inl rfl | exact Or.inr rfl) pe_int))
    pss_nil)))
  (pss_one (ps_set (i := 4) sc_Lline_of_words.nd rfl (by first | exact Or.inl rfl | exact Or.inr rfl) (pe_op op_add_str (pv 4) (pe_op op_mulS pe_str (pe_callB (call_max2 rfl) (by rfl) T.n_max (by decide +kernel) (pa_cons (pv 7) (pa_cons (pe_callO (ok_Ldraw T) (hr.mono (by decide)) (pa_cons (pv 0) (pa_cons pe_int pa_nil))) pa_nil)))))))))
    pss_nil)
  (pss_cons (ps_expr (pe_appOf (pe_bm PySem.F.plainAttrs_list PySem.F.slot_list_append PySem.F.type_list_append mt_append (pe_map (pv 5)) (pa_cons (pe_map (pe_op op_add (pe_callB call_len_str (by rfl) T.n_len PySem.boot_len (pa_cons (pv 4) pa_nil)) pe_int)) pa_nil))))
  (pss_one (ps_set (i := 4) sc_Lline_of_words.nd rfl (by first | exact Or.inl rfl | exact Or.inr rfl) (pe_op op_add_str (pv 4) (pe_ix ix_lT (pv 1) (pv 6) (fun _ _ => rfl))))))))
  (pss_one (ps_ret (pe_tup (pa_cons (pe_op op_add_str (pv 4) (pe_op op_mulS pe_str (pe_callO (ok_Ldraw T) (hr.mono (by decide)) (pa_cons (pv 0) (pa_cons pe_int pa_nil))))) (pa_cons (pv 5) pa_nil)))))))), ?_⟩
    show tSeq _ _ _ [some (.ref p), some (.ref a), none, none, none, none, none, none, none] _
    walk_at "sx"
    simp only [letters_codes, figures_codes, blank_codes]
    walk_at "sx"
    intro T0 hT0
    refine ⟨p, l, _, c, rfl, hP.ex (Ex.new hT0), by omega, by decide, by decide, fun n H1 h0 h1 d1 => ?_⟩
    refine ⟨n, rfl, by decide, by omega, by omega, fun F hF => ?_⟩
    have nap : a ≠ p := hP.nlst ha
    have naF : a ≠ F := by
      intro z
      rw [← z, d1.1 _ _ nap (Ex.new hT0 _ _ ha)] at hF
      cases hF
    have ha1 := d1.1 _ _ nap (Ex.new hT0 _ _ ha)
    have nFp := d1.2.ne hF
    have nFl := d1.2.nl hF
    refine ⟨_, by rw [upd_ne naF]; exact ha1, by omega, by rw [List.length_map]; omega, ?_⟩
    rw [repL_blank]
    refine lp_by (walks_range 0 _) (fun i σ H' => ∃ (ps : List Gw) (x6 x7 x8 : Option V), ps.length = i ∧ ps.map (·.2) = ws.take i ∧ Seps ps ∧ (∀ q ∈ ps, q.1 ≤ 2) ∧ H' F = some (.lst ((place n.toNat ps).map fun x : Nat => V.int ((x : Int) + 1))) ∧ ExB p H1 H' ∧ Pen H' p l (c + 1 + i) ∧
      σ = [some (.ref p), some (.ref a), some (.str (S (List.range' 97 26))), some (.str (S (List.range' 48 10))), some (.str (S (blanks n.toNat ++ body ps))), some (.ref F), x6, x7, x8])
      ⟨[], none, none, none, rfl, rfl, trivial, fun _ h => (nomatch h), upd_same, .new hF, (d1.2.upd nFp nFl).mono (by omega), by rw [show body [] = [] from rfl, List.append_nil]⟩ (fun _ _ _ _ _ => trivial) ?_ ?_
    · rintro i σ H2 hi ⟨ps, x6, x7, x8, hpl, hps, hsp, hg, hF2, ex2, hP2, rfl⟩
      have hi' : i < ws.length := by
        rw [List.length_map] at hi
        omega
      obtain ⟨hwne, hwl⟩ := hz ws[i] (List.getElem_mem _)
      have ha2 := ex2 _ _ nap ha1
      have hai : atI (ws.map fun z => V.str (S z)) (i : Int) = some (.str (S ws[i])) := atI_eq (i := i) rfl (by rw [List.getElem?_map, List.getElem?_eq_getElem hi']; rfl)
      have hbl : (body ps).length ≤ 10 * 202 := by
        refine Nat.le_trans (body_len_le 202 ps fun q hq => ?_) (Nat.mul_le_mul_right _ (by omega))
        have hm : q.2 ∈ ps.map (·.2) := List.mem_map.mpr ⟨q, hq, rfl⟩
        rw [hps] at hm
        have h1 := (hz q.2 (List.mem_of_mem_take hm)).2
        have h2 := hg q hq
        omega
      simp only [Int.zero_add]
      refine ⟨fun σ' H' => ∃ (g : Nat) (y7 y8 : Option V), g ≤ 2 ∧ (∀ q, ps.getLast? = some q → same q.2 ws[i] → 1 ≤ g) ∧ H' F = some (.lst ((place n.toNat ps).map fun x : Nat => V.int ((x : Int) + 1))) ∧ ExB p H1 H' ∧ Pen H' p l (c + 1 + i + 1) ∧
        σ' = [some (.ref p), some (.ref a), some (.str (S (List.range' 97 26))), some (.str (S (List.range' 48 10))), some (.str (S (blanks n.toNat ++ body ps ++ blanks g))), some (.ref F), some (.int i), y7, y8], ?_, ?_⟩
      · walk_at "sx"
        by_cases hi0 : 0 < i
        · rw [if_pos (by omega)]
          intro T1 hT1
          refine ⟨⟨_, rfl⟩, ?_⟩
          have hj : i - 1 < ws.length := by omega
          obtain ⟨hpne, _⟩ := hz ws[i - 1] (List.getElem_mem _)
          obtain ⟨x, hx, _⟩ := last_some hpne
          obtain ⟨y, hy, hya⟩ := head_some hwne
          have hxa := last_at hx
          have hpl1 : ws[i - 1].length ≤ sizeLine := sz_of (by have := (hz ws[i - 1] (List.getElem_mem _)).2; omega)
          have hpl2 : ws[i].length ≤ sizeLine := sz_of (by omega)
          have naT : a ≠ T1 := ne_of_none ha2 hT1
          have haT : ∀ o, upd H2 T1 o a = some (.lst (ws.map fun z => V.str (S z))) := fun o => by rw [upd_ne naT]; exact ha2
          have hai1 : atI (ws.map fun z => V.str (S z)) ((i : Int) - 1) = some (.str (S ws[i - 1])) := atI_eq (i := i - 1) (by omega) (by rw [List.getElem?_map, List.getElem?_eq_getElem hj]; rfl)
          have nTp := hP2.ne hT1
          have nTl := hP2.nl hT1
          have hlastq : ∀ q, ps.getLast? = some q → q.2 = ws[i - 1] := fun q hq => by
            have e1 : (ps.map (·.2)).getLast? = some q.2 := by rw [List.getLast?_map, hq]; rfl
            rw [hps, List.getLast?_eq_getElem?, List.length_take, Nat.min_eq_left (by omega), List.getElem?_take_of_lt (by omega), List.getElem?_eq_getElem hj] at e1
            exact (Option.some.inj e1).symm
          refine lp_by (walks_tup [V.str (S (List.range' 97 26)), V.str (S (List.range' 48 10))]) (fun t σ H'' => H'' = upd H2 T1 (.tup [V.str (S (List.range' 97 26)), V.str (S (List.range' 48 10))]) ∧ ∃ (x8 : Option V), σ = [some (.ref p), some (.ref a), some (.str (S (List.range' 97 26))), some (.str (S (List.range' 48 10))), some (.str (S (blanks n.toNat ++ body ps))), some (.ref F), some (.int i),
              some (.int (if (1 ≤ t ∧ isL x = true ∧ isL y = true) ∨ (2 ≤ t ∧ isD x = true ∧ isD y = true) then 1 else 0)), x8]) ⟨rfl, x8, rfl⟩ (fun t σ H'' _ ⟨e, _⟩ => by rw [e]; exact SqT.of upd_same) ?_ ?_
          · rintro t σ H'' ht ⟨rfl, z8, rfl⟩
            have ht2 : t = 0 ∨ t = 1 := by
              have : t < 2 := ht
              omega
            rcases ht2 with rfl | rfl
            · show tIfS _ _ _ _ _ _
              walk_at "sx"
              simp only [haT]
              walk_at "sx"
              refine ⟨_, hai1, S ws[i - 1], rfl, by rw [S_len]; exact hpl1, x, hxa, _, rfl, ?_⟩
              by_cases hLx : isL x = true
              · rw [if_pos ((mem_rL x).mpr hLx)]
                refine ⟨_, hai, S ws[i], rfl, by rw [S_len]; exact hpl2, y, hya, _, rfl, ?_⟩
                by_cases hLy : isL y = true
                · rw [if_pos ((mem_rL y).mpr hLy)]
                  refine ⟨?_, _, rfl⟩
                  rw [if_pos (.inl ⟨Nat.le_refl _, hLx, hLy⟩)]
                · rw [if_neg (fun z => hLy ((mem_rL y).mp z))]
                  refine ⟨?_, _, rfl⟩
                  rw [if_neg (by omega), if_neg (by rintro (⟨_, _, h⟩ | ⟨h, _⟩); exact hLy h; omega)]
              · rw [if_neg (fun z => hLx ((mem_rL x).mp z))]
                refine ⟨?_, _, rfl⟩
                rw [if_neg (by omega), if_neg (by rintro (⟨_, h, _⟩ | ⟨h, _⟩); exact hLx h; omega)]
            · show tIfS _ _ _ _ _ _
              walk_at "sx"
              simp only [haT]
              walk_at "sx"
              refine ⟨_, hai1, S ws[i - 1], rfl, by rw [S_len]; exact hpl1, x, hxa, _, rfl, ?_⟩
              have hone : ¬ (isD x = true ∧ isD y = true) → (if (1 ≤ 1 ∧ isL x = true ∧ isL y = true) ∨ (2 ≤ 1 ∧ isD x = true ∧ isD y = true) then (1 : Int) else 0) = if (1 ≤ 2 ∧ isL x = true ∧ isL y = true) ∨ (2 ≤ 2 ∧ isD x = true ∧ isD y = true) then 1 else 0 := fun hn => by
                by_cases hL : isL x = true ∧ isL y = true
                · rw [if_pos (.inl ⟨by decide, hL⟩), if_pos (.inl ⟨by decide, hL⟩)]
                · rw [if_neg (by rintro (⟨_, h⟩ | ⟨h, _⟩); exact hL h; omega), if_neg (by rintro (⟨_, h⟩ | ⟨_, h⟩); exact hL h; exact hn h)]
              by_cases hLx : isD x = true
              · rw [if_pos ((mem_rD x).mpr hLx)]
                refine ⟨_, hai, S ws[i], rfl, by rw [S_len]; exact hpl2, y, hya, _, rfl, ?_⟩
                by_cases hLy : isD y = true
                · rw [if_pos ((mem_rD y).mpr hLy)]
                  refine ⟨?_, _, rfl⟩
                  rw [if_pos (.inr ⟨Nat.le_refl _, hLx, hLy⟩)]
                · rw [if_neg (fun z => hLy ((mem_rD y).mp z))]
                  exact ⟨hone (fun z => hLy z.2), _, rfl⟩
              · rw [if_neg (fun z => hLx ((mem_rD x).mp z))]
                exact ⟨hone (fun z => hLx z.1), _, rfl⟩
          · rintro σ H'' ⟨rfl, z8, rfl⟩
            walk_at "sx"
            refine ⟨p, l, _, _, rfl, hP2.upd nTp nTl, by omega, by decide, by decide, fun m H3 m0 m1 d3 => ?_⟩
            have hc1 : (if (1 ≤ [V.str (S (List.range' 97 26)), V.str (S (List.range' 48 10))].length ∧ isL x = true ∧ isL y = true) ∨ (2 ≤ [V.str (S (List.range' 97 26)), V.str (S (List.range' 48 10))].length ∧ isD x = true ∧ isD y = true) then (1 : Int) else 0) = if (isL x = true ∧ isL y = true) ∨ (isD x = true ∧ isD y = true) then 1 else 0 := by
              by_cases hL : (isL x = true ∧ isL y = true) ∨ (isD x = true ∧ isD y = true)
              · rw [if_pos hL, if_pos (hL.elim (fun h => .inl ⟨by decide, h⟩) (fun h => .inr ⟨by decide, h⟩))]
              · rw [if_neg hL, if_neg (by rintro (⟨_, h⟩ | ⟨_, h⟩); exact hL (.inl h); exact hL (.inr h))]
            have hc2 : (if (1 ≤ 2 ∧ isL x = true ∧ isL y = true) ∨ (2 ≤ 2 ∧ isD x = true ∧ isD y = true) then (1 : Int) else 0) = if (isL x = true ∧ isL y = true) ∨ (isD x = true ∧ isD y = true) then 1 else 0 := hc1
            simp only [hc2, repL_blank]
            generalize hb : (if (isL x = true ∧ isL y = true) ∨ (isD x = true ∧ isD y = true) then (1 : Int) else 0) = b
            have hb01 : b = 0 ∨ b = 1 := by rw [← hb]; split; exact .inr rfl; exact .inl rfl
            generalize hg3 : (if m > b then m else b) = g
            have hg4 : 0 ≤ g ∧ g ≤ 2 ∧ b ≤ g := by rw [← hg3]; split <;> omega
            have nFT : F ≠ T1 := ne_of_none hF2 hT1
            refine ⟨m, rfl, by decide, ?_⟩
            rw [hg3]
            refine ⟨by omega, by omega, ?_, g.toNat, by omega, ?_, ?_, ?_, d3.2.mono (by omega), rfl, _, rfl⟩
            · rw [List.length_append, blanks_len, blanks_len]
              exact sz_of (by omega)
            · intro q hq ⟨x', y', e1, e2, e3⟩
              rw [hlastq q hq, hx] at e1
              rw [hy] at e2
              cases e1
              cases e2
              rw [if_pos e3] at hb
              omega
            · exact d3.1 _ _ nFp (by rw [upd_ne nFT]; exact hF2)
            · exact (ex2.trans (.new hT1)).trans d3.1
        · rw [if_neg (by omega)]
          have e0 : ps = [] := List.eq_nil_of_length_eq_zero (by omega)
          exact ⟨0, by omega, (fun q hq => by rw [e0] at hq; cases hq), hF2, ex2, hP2.mono (by omega), (List.append_nil _).symm, _, rfl⟩
      · rintro σ' H' ⟨g, y7, y8, hg2, hgs, hF3, ex3, hP3, rfl⟩
        have ha3 := ex3 _ _ nap ha1
        have hL1 : (blanks n.toNat ++ body ps ++ blanks g).length = n.toNat + (body ps).length + g := by rw [List.length_append, List.length_append, blanks_len, blanks_len]
        walk_at "sx"
        simp only [ha3, hF3, hai]
        walk_at "sx"
        have hpc : (place n.toNat ps).length = ps.length := place_len _ _
        refine ⟨⟨_, rfl⟩, by rw [hL1]; exact sz_of (by omega), by rw [List.length_map, hpc]; exact sz_lt (by omega), _, by rw [upd_ne naF]; exact ha3, _, hai, S ws[i], rfl, by rw [hL1, S_len]; exact sz_of (by omega), ps ++ [(g, ws[i])], by rw [List.length_append, hpl]; rfl, ?_,
          seps_snoc ps (g, ws[i]) hsp hgs, ?_, ?_, ex3.mut hF, (hP3.upd nFp nFl).mono (by omega), ?_, _, rfl⟩
        · rw [List.map_append, hps, List.take_succ, List.getElem?_eq_getElem hi']
          rfl
        · intro q hq
          rcases List.mem_append.mp hq with h | h
          · exact hg q h
          · rw [List.mem_singleton.mp h]; exact hg2
        · rw [place_snoc, List.map_append, hL1]
          congr 1
        · rw [S_app, body_snoc, List.append_assoc, List.append_assoc]
    · rintro σ H2 ⟨ps, x6, x7, x8, hpl, hps, hsp, hg, hF2, ex2, hP2, rfl⟩
      have hpw : ps.map (·.2) = ws := by
        rw [hps]
        exact List.take_of_length_le (by rw [List.length_map]; omega)
      have hbl : (body ps).length ≤ 10 * 202 := by
        have hl' : ps.length = ws.length := by rw [← hpw, List.length_map]
        refine Nat.le_trans (body_len_le 202 ps fun q hq => ?_) (Nat.mul_le_mul_right _ (by omega))
        have hm : q.2 ∈ ps.map (·.2) := List.mem_map.mpr ⟨q, hq, rfl⟩
        rw [hpw] at hm
        have h1 := (hz q.2 hm).2
        have h2 := hg q hq
        omega
      walk_at "sx"
      have hlen : ((↑(ws.map fun z => V.str (S z)).length : Int)).toNat ≤ 10 := by rw [List.length_map]; omega
      refine ⟨p, l, _, _, rfl, hP2, by omega, by decide, by decide, fun m H3 m0 m1 d3 => ?_⟩
      refine ⟨m, rfl, by decide, by omega, by omega, ?_, fun tp ht => ?_⟩
      · rw [repL_blank, List.length_append, blanks_len, blanks_len]
        exact sz_of (by omega)
      · rw [repL_blank]
        have nFp' := hP2.nlst hF2
        refine k n.toNat m.toNat ps tp F _ hpw hsp (by omega) (by omega) hg ⟨?_, ?_⟩ ?_ upd_same
        · exact ((ExB.of (Ex.new hT0)).trans d1.1).trans ((ex2.trans d3.1).trans (.new ht))
        · exact (d3.2.ex (Ex.new ht)).mono (by omega)
        · exact Ex.new ht _ _ (d3.1 _ _ nFp' hF2)
end
end K33

namespace K33
open PySem PySem.Spec PyProof.Rows L2 Evl Lay
local macro_rules | `(tactic| walk_at "sx") => `(tactic| simp only [CwR.tReplC, tDisp, tPairs, tBreak, tCont, at0, at1, at2, tSeq, tAsg, tVar, tC, tOp, tUn, rI, rI0, rU, tCB, tCons, tNil, tRet, tIfS, tTest, tB, tAnd, tOr, tNot, tAndV, tOrV, tNotV, tIf, tDGet, sDPut, gName, tNext, rEq, rNe, tDrop, tPar, tAug, tCall, tTup, tLst, tSl, tPart, tNoPart, tYes, tApp, tJoinL, tM1, tM0, tChain,
  tFor_eq, tLc_eq, iListT, iTupT, iRng1, iRng2, iStr, rIxL', rIxT', rIxS, rLenL', rLenT', rInt', rListL', rListT', rTupL', rInT', rInL', rSlL', rSlS, rMulS, rIsB, rInKd, rIxKd, rAllT', rLenX', rLenS', rIxX', reduceCtorEq, false_and, exists_false, or_false, false_or, exists_const, gTupT, gCons, gNil, rCat, dget_upd, dput_upd,
  List.getElem?_cons_zero, List.getElem?_cons_succ, Option.some.injEq, V.int.injEq, V.ref.injEq, V.str.injEq, V.bl.injEq, HO.lst.injEq, HO.tup.injEq, List.cons.injEq, List.cons_append, List.nil_append, List.append_nil,
  exists_eq_left', exists_eq_left, exists_and_left, exists_and_right, and_true, true_and, List.set_cons_zero, List.set_cons_succ, exists_eq_right, exists_eq_right', decide_eq_true_eq, Bool.false_eq_true, if_true, if_false, ite_true, ite_false, and_assoc,
  upd_same, pkv_len, pkv_cells, pkv_at, pkv_digits, pkv_count, pkv_fold, put_at, put_digits, put_count, put_fold, List.length_cons, List.length_nil, decide_true, decide_false, scal_i, scal_s, Nat.reduceAdd, List.map_cons, List.map_nil, HT.sIx_nat, HT.sIx_none, szl0, szl1, szl2, szl3, szl4, szl5, szl6, szl7, szl8, szl9, szl10, szl11, szl12, ipI, wipe, Bool.not_eq_true', Bool.not_true, Bool.not_false, S_eq, S_len, S_cps, S_app, S_cut, S_rep, tyN, tyO, ne_eq, not_false_eq_true, not_true_eq_false])
local macro_rules | `(tactic| walk_at "sy") => `(tactic| simp only [CwR.tReplC, tDisp, tPairs, tBreak, tCont, at0, at1, at2, tSeq, tAsg, tVar, tC, tOp, tUn, rI, rI0, rU, tCB, tCons, tNil, tRet, tIfS, tTest, tB, tAnd, tOr, tNot, tAndV, tOrV, tNotV, tIf, tDGet, sDPut, gName, tNext, rEq, rNe, tDrop, tPar, tAug, tCall, tTup, tLst, tSl, tPart, tNoPart, tYes, tApp, tJoinL, tM1, tM0, tChain,
  tFor_eq, tLc_eq, iListT, iTupT, iRng1, iRng2, iStr, rIxL', rIxT', rIxS, rLenL', rLenT', rInt', rListL', rListT', rTupL', rInT', rInL', rSlL', rSlS, rMulS, rIsB, rInKd, rIxKd, rAllT', rLenX', rLenS', rIxX', reduceCtorEq, false_and, exists_false, or_false, false_or, exists_const, gTupT, gCons, gNil, rCat, dget_upd, dput_upd,
  List.getElem?_cons_zero, List.getElem?_cons_succ, Option.some.injEq, V.int.injEq, V.ref.injEq, V.str.injEq, V.bl.injEq, HO.lst.injEq, HO.tup.injEq, List.cons.injEq, List.cons_append, List.nil_append, List.append_nil,
  exists_eq_left', exists_eq_left, exists_and_left, exists_and_right, and_true, true_and, List.set_cons_zero, List.set_cons_succ, exists_eq_right, exists_eq_right', decide_eq_true_eq, Bool.false_eq_true, if_true, if_false, ite_true, ite_false, and_assoc,
  upd_same, pkv_len, pkv_cells, pkv_at, pkv_digits, pkv_count, pkv_fold, put_at, put_digits, put_count, put_fold, List.length_cons, List.length_nil, decide_true, decide_false, scal_i, scal_s, Nat.reduceAdd, List.map_cons, List.map_nil, HT.sIx_nat, HT.sIx_none, szl0, szl1, szl2, szl3, szl4, szl5, szl6, szl7, szl8, szl9, szl10, szl11, szl12, ipI, wipe, Bool.not_eq_true', Bool.not_true, Bool.not_false, S_eq, S_len, S_cps, S_app, S_cut, S_rep, tyN, tyO, ne_eq, not_false_eq_true, not_true_eq_false, *])

section
variable {P : Program} {w : World} {K : PySem.W.Frag} {mg : Str → Option Value} {base : Heap}
def spRight : Sp := fun vs H Q _ => ∃ (p l : Addr) (c : Int), vs = [.ref p] ∧ Pen H p l c ∧ c < 2 ^ 37 ∧
  ∀ a kd v wr H', Right kd v wr → Drawn p l (c + 200) H H' → H' a = some (.tup [.str kd, v, .str (S wr)]) → Q (.ref a) H'
theorem ok_Lright_word (T : Txt w K mg) : Ok P w K mg base CX0 5 "_law_right_word" ["_law_pen_here"] spRight := by
  refine T.d_Lright_word.ok sc_Lright_word (fun _ _ _ _ _ _ us hl => match us, hl with | [_], _ => rfl) (fun vs H Q E h => ?_) (fun cdv A outer s H vs Q E hr h => ?_)
  · obtain ⟨p, l, c, rfl, _⟩ := h
    rfl
  · obtain ⟨p, l, c, rfl, hP, hc, k⟩ := h
    refine ⟨_, (pss_cons (ps_set (i := 1) sc_Lright_word.nd rfl (by first | exact Or.inl rfl | exact Or.inr rfl) (pe_callO (ok_Ldraw T) (hr.mono (by decide)) (pa_cons (pv 0) (pa_cons pe_int pa_nil))))
  (pss_cons (ps_if (pt_cmpR op_eq (pv 1) pe_int (nomark _))
    (pss_cons (ps_set (i := 2) sc_Lright_word.nd rfl (by first | exact Or.inl rfl | exact Or.inr rfl) (pe_callO (ok_Lany_name T) (hr.mono (by decide)) (pa_cons (pv 0) pa_nil)))
  (pss_one (ps_ret (pe_tup (pa_cons pe_str (pa_cons (pv 2) (pa_cons (pv 2) pa_nil)))))))
    pss_nil)
  (pss_cons (ps_if (pt_cmpR op_eq (pv 1) pe_int (nomark _))
    (pss_cons (ps_set (i := 3) sc_Lright_word.nd rfl (by first | exact Or.inl rfl | exact Or.inr rfl) (pe_ifExp (pt_cmpR op_eq (pe_callO (ok_Ldraw T) (hr.mono (by decide)) (pa_cons (pv 0) (pa_cons pe_int pa_nil))) pe_int (nomark _)) (pe_callO (ok_Ldraw T) (hr.mono (by decide)) (pa_cons (pv 0) (pa_cons pe_int pa_nil))) (pe_op op_add pe_int (pe_op op_mul (pe_callO (ok_Ldraw T) (hr.mono (by decide)) (pa_cons (pv 0) (pa_cons pe_int pa_nil))) pe_int))))
  (pss_one (ps_ret (pe_tup (pa_cons pe_str (pa_cons (pv 3) (pa_cons (pe_callTy call_str_int (by rfl) T.n_str (by decide +kernel) (pa_cons (pv 3) pa_nil)) pa_nil)))))))
    pss_nil)
  (pss_cons (ps_if (pt_cmpR op_eq (pv 1) pe_int (nomark _))
    (pss_cons (ps_set (i := 4) sc_Lright_word.nd rfl (by first | exact Or.inl rfl | exact Or.inr rfl) (pe_callO (ok_Lany_word T) (hr.mono (by decide)) (pa_cons (pv 0) (pa_cons pe_int (pa_cons pe_int (pa_cons pe_bl pa_nil))))))
  (pss_one (ps_ret (pe_tup (pa_cons pe_str (pa_cons (pv 4) (pa_cons (pe_callO (ok_Lquoted T) (hr.mono (by decide)) (pa_cons (pv 4) pa_nil)) pa_nil)))))))
    pss_nil)
  (pss_cons (ps_set (i := 5) sc_Lright_word.nd rfl (by first | exact Or.inl rfl | exact Or.inr rfl) (pe_callO (ok_Lpick T) (hr.mono (by decide)) (pa_cons (pv 0) (pa_cons pe_str pa_nil))))
  (pss_one (ps_ret (pe_tup (pa_cons pe_str (pa_cons (pv 5) (pa_cons (pv 5) pa_nil))))))))))), ?_⟩
    show tSeq _ _ _ [some (.ref p), none, none, none, none, none] _
    walk_at "sx"
    refine ⟨p, l, _, c, rfl, hP, by omega, by decide, by decide, fun n H1 h0 h1 d1 => ?_⟩
    walk_at "sx"
    by_cases c0 : n = 0
    · rw [if_pos c0]
      refine ⟨p, l, _, rfl, d1.2, by omega, fun z H2 hz hl ha d2 => ?_⟩
      walk_at "sx"
      intro t ht
      exact k t _ _ z _ (.name hz hl ha) (((d1.trans d2).ex (Ex.new ht)).mono (by omega)) upd_same
    · rw [if_neg c0]
      by_cases c1 : n = 1
      · rw [if_pos c1]
        refine ⟨p, l, _, _, rfl, d1.2, by omega, by decide, by decide, fun m H2 m0 m1 d2 => ?_⟩
        walk_at "sx"
        have fin : ∀ (x : Int) (H3 : Hp), 0 ≤ x → x < 10 ^ 9 → Drawn p l (c + 3) H H3 → x.natAbs.log2 < 1920 ∧ ∀ p1, H3 p1 = none → Q (.ref p1) (upd H3 p1 (.tup [.str (Str.ofString "number"), .int x, .str (Str.ofString (toString x))])) := fun x H3 x0 x1 d3 => by
          refine ⟨?_, fun t ht => ?_⟩
          · exact Nat.lt_of_lt_of_le (PySem.Flt.log2_lt_of (k := 30) (by decide) (by omega)) (by decide)
          · obtain ⟨y, rfl⟩ : ∃ y : Nat, x = (y : Int) := ⟨x.toNat, by omega⟩
            rw [SX.num_S]
            exact k t _ _ _ _ (.num (by omega)) ((d3.ex (Ex.new ht)).mono (by omega)) upd_same
        by_cases cm : m = 0
        · rw [if_pos cm]
          refine ⟨p, l, _, _, rfl, d2.2, by omega, by decide, by decide, fun x H3 x0 x1 d3 => ?_⟩
          refine ⟨x, rfl, ?_⟩
          exact fin x H3 x0 (by omega) (((d1.trans d2).trans d3).mono (by omega))
        · rw [if_neg cm]
          refine ⟨p, l, _, _, rfl, d2.2, by omega, by decide, by decide, fun x H3 x0 x1 d3 => ?_⟩
          refine ⟨x, rfl, .inl ⟨by omega, by omega⟩, ?_⟩
          exact fin (1 + x * 9999) H3 (by omega) (by omega) (((d1.trans d2).trans d3).mono (by omega))
      · rw [if_neg c1]
        by_cases c2 : n = 2
        · rw [if_pos c2]
          refine ⟨p, l, _, 8, rfl, by decide, by decide, d1.2, by omega, fun z H2 hl ha d2 => ?_⟩
          refine ⟨z, rfl, by omega, ?_⟩
          walk_at "sx"
          intro t ht
          exact k t _ _ _ _ (.quo hl ha) (((d1.trans d2).ex (Ex.new ht)).mono (by omega)) upd_same
        · rw [if_neg c2]
          refine ⟨p, l, _, _, rfl, d1.2, by omega, .inl ⟨[40, 41], by rw [brackets_codes], by decide, by decide, fun ch H2 hm d2 => ?_⟩⟩
          walk_at "sx"
          intro t ht
          exact k t _ _ _ _ (.br (by simpa using hm)) (((d1.trans d2).ex (Ex.new ht)).mono (by omega)) upd_same
def spWrong : Sp := fun vs H Q _ => ∃ (p l : Addr) (c : Int), vs = [.ref p] ∧ Pen H p l c ∧ c < 2 ^ 37 ∧
  ∀ a kd (v : Int) wr H', Wrong kd v wr → Drawn p l (c + 200) H H' → H' a = some (.tup [.str kd, .int v, .str (S wr)]) → Q (.ref a) H'
theorem ok_Lwrong_word (T : Txt w K mg) : Ok P w K mg base CX0 5 "_law_wrong_word" ["_law_pen_here"] spWrong := by
  refine T.d_Lwrong_word.ok sc_Lwrong_word (fun _ _ _ _ _ _ us hl => match us, hl with | [_], _ => rfl) (fun vs H Q E h => ?_) (fun cdv A outer s H vs Q E hr h => ?_)
  · obtain ⟨p, l, c, rfl, _⟩ := h
    rfl
  · obtain ⟨p, l, c, rfl, hP, hc, k⟩ := h
    refine ⟨_, (pss_cons (ps_set (i := 1) sc_Lwrong_word.nd rfl (by first | exact Or.inl rfl | exact Or.inr rfl) (pe_callO (ok_Ldraw T) (hr.mono (by decide)) (pa_cons (pv 0) (pa_cons pe_int pa_nil))))
  (pss_cons (ps_set (i := 2) sc_Lwrong_word.nd rfl (by first | exact Or.inl rfl | exact Or.inr rfl) (pe_slice sl_str (pe_callO (ok_Lquoted T) (hr.mono (by decide)) (pa_cons (pe_callO (ok_Lany_word T) (hr.mono (by decide)) (pa_cons (pv 0) (pa_cons pe_int (pa_cons pe_int (pa_cons pe_bl pa_nil))))) pa_nil)) po_none (po_some (pe_un un_neg pe_int))))
  (pss_cons (ps_set (i := 3) sc_Lwrong_word.nd rfl (by first | exact Or.inl rfl | exact Or.inr rfl) (pe_op op_add_str pe_str (pe_joinL pe_str (pe_lc (own := [("_law_k", 4)]) rfl sc_Lwrong_word.nd (pi_range1 (by rfl) T.n_range (pa_cons (pe_callO (ok_Ldraw T) (hr.mono (by decide)) (pa_cons (pv 0) (pa_cons pe_int pa_nil))) pa_nil)) (blkOk_by (own := [("_law_k", 4)]) (N := N_Lwrong_word) (sc := defScope s_Lwrong_word) (by decide +kernel)) (fun _ _ _ _ _ => (pg_name (i := 4) sc_Lwrong_word.nd rfl (by first | exact Or.inl rfl | exact Or.inr rfl))) (fun _ _ _ _ _ => pts_nil) (fun _ _ _ _ _ => (pe_callO (ok_Lpick T) (hr.mono (by decide)) (pa_cons (pv 0) (pa_cons pe_str pa_nil))))))))
  (pss_cons (ps_if (pt_cmpR op_eq (pv 1) pe_int (nomark _))
    (pss_one (ps_ret (pe_tup (pa_cons pe_str (pa_cons pe_int (pa_cons (pe_op op_add_str pe_str (pe_callTy call_str_int (by rfl) T.n_str (by decide +kernel) (pa_cons (pe_callO (ok_Ldraw T) (hr.mono (by decide)) (pa_cons (pv 0) (pa_cons pe_int pa_nil))) pa_nil))) pa_nil))))))
    pss_nil)
  (pss_cons (ps_if (pt_cmpR op_eq (pv 1) pe_int (nomark _))
    (pss_one (ps_ret (pe_tup (pa_cons pe_str (pa_cons pe_int (pa_cons (pe_op op_add_str (pe_op op_add_str (pe_callTy call_str_int (by rfl) T.n_str (by decide +kernel) (pa_cons (pe_op op_add pe_int (pe_callO (ok_Ldraw T) (hr.mono (by decide)) (pa_cons (pv 0) (pa_cons pe_int pa_nil)))) pa_nil)) pe_str) (pe_op op_mulS pe_str (pe_callO (ok_Ldraw T) (hr.mono (by decide)) (pa_cons (pv 0) (pa_cons pe_int pa_nil))))) pa_nil))))))
    pss_nil)
  (pss_cons (ps_if (pt_cmpR op_eq (pv 1) pe_int (nomark _))
    (pss_one (ps_ret (pe_tup (pa_cons pe_str (pa_cons (pe_callB call_len_str (by rfl) T.n_len PySem.boot_len (pa_cons (pv 2) pa_nil)) (pa_cons (pe_op op_add_str (pe_op op_add_str (pe_op op_add_str (pv 2) pe_str) (pe_callO (ok_Lpick T) (hr.mono (by decide)) (pa_cons (pv 0) (pa_cons pe_str pa_nil)))) pe_str) pa_nil))))))
    pss_nil)
  (pss_cons (ps_if (pt_cmpR op_eq (pv 1) pe_int (nomark _))
    (pss_one (ps_ret (pe_tup (pa_cons pe_str (pa_cons (pe_callB call_len_str (by rfl) T.n_len PySem.boot_len (pa_cons (pv 2) pa_nil)) (pa_cons (pe_op op_add_str (pe_op op_add_str (pv 2) pe_str) pe_str) pa_nil))))))
    pss_nil)
  (pss_cons (ps_if (pt_cmpR op_eq (pv 1) pe_int (nomark _))
    (pss_one (ps_ret (pe_tup (pa_cons pe_str (pa_cons pe_int (pa_cons (pv 3) pa_nil))))))
    pss_nil)
  (pss_cons (ps_if (pt_cmpR op_eq (pv 1) pe_int (nomark _))
    (pss_one (ps_ret (pe_tup (pa_cons pe_str (pa_cons (pe_callB call_len_str (by rfl) T.n_len PySem.boot_len (pa_cons (pv 3) pa_nil)) (pa_cons (pe_op op_add_str (pv 3) pe_str) pa_nil))))))
    pss_nil)
  (pss_one (ps_ret (pe_tup (pa_cons pe_str (pa_cons pe_int (pa_cons (pe_callO (ok_Lpick T) (hr.mono (by decide)) (pa_cons (pv 0) (pa_cons (pe_lst (pa_cons pe_str (pa_cons pe_str (pa_cons pe_str (pa_cons pe_str (pa_cons pe_str (pa_cons pe_str (pa_cons pe_str (pa_cons pe_str (pa_cons pe_str (pa_cons pe_str (pa_cons pe_str (pa_cons pe_str (pa_cons pe_str (pa_cons pe_str pa_nil))))))))))))))) pa_nil))) pa_nil))))))))))))))), ?_⟩
    show tSeq _ _ _ [some (.ref p), none, none, none, none] _
    walk_at "sx"
    refine ⟨p, l, _, c, rfl, hP, by omega, by decide, by decide, fun n H1 h0 h1 d1 => ?_⟩
    refine ⟨p, l, _, 5, rfl, by decide, by decide, d1.2, by omega, fun z H2 hzl ha d2 => ?_⟩
    refine ⟨z, rfl, by omega, ?_⟩
    walk_at "sx"
    simp only [Nat.sub_zero, List.drop_zero]
    have hcut : List.take (HT.sIx (quoted z).length (quoted z).length (some (-1))) (quoted z) = 34 :: z.flatMap escape := by
      have h := quoted_cut z
      rw [HT.sIx_none, Nat.sub_zero, List.drop_zero] at h
      exact h
    have hql := quoted_len z
    have hel := escape_len z
    simp only [hcut]
    refine ⟨sz_of (by omega), ?_⟩
    refine ⟨p, l, _, _, rfl, d2.2, by omega, by decide, by decide, fun m H3 m0 m1 d3 => ?_⟩
    refine ⟨m, rfl, by omega, by omega, fun D hD => ?_⟩
    refine join_drawP (walks_range 0 _) (k := 1) (fun ch => sgn ch = true ∧ ch ≠ 34 ∧ ch ≠ 92) (by omega) d3.2 hD (fun _ => rfl) ?_ ?_
    · intro i H Q' hi ex hp kk
      walk_at "sx"
      refine ⟨p, l, _, _, rfl, hp, by omega, .inl ⟨_, by rw [plain_codes], by decide, by decide, fun ch H' hm d => kk ch H' ?_ d⟩⟩
      have hall : ∀ ch ∈ [97, 32, 48, 110, 40, 41, 126, 59], sgn ch = true ∧ ch ≠ 34 ∧ ch ≠ 92 := by decide
      exact hall ch hm
    · intro zs H4 hzs hpl d4
      have dd := ((d1.trans d2).trans d3).trans d4
      have hzl2 : zs.length ≤ 5 := by omega
      simp only [empty_codes, join_signs, quote_codes, back_codes, nq_codes, tab_codes, nine_codes, n9_codes, zero_codes]
      walk_at "sx"
      have fin : ∀ kd (v : Int) wr H5, Wrong kd v wr → Drawn p l (c + 200) H H5 → ∀ t, H5 t = none → Q (.ref t) (upd H5 t (.tup [.str kd, .int v, .str (S wr)])) := fun kd v wr H5 hw d t ht =>
        k t kd v wr _ hw (d.ex (Ex.new ht)) upd_same
      have dd' : Drawn p l (c + 150) H H4 := dd.mono (by omega)
      have hP4 := dd'.2
      have hlog : ∀ x : Int, 0 ≤ x → x < 10 ^ 9 → x.natAbs.log2 < 1920 := fun x x0 x1 => Nat.lt_of_lt_of_le (PySem.Flt.log2_lt_of (k := 30) (by decide) (by omega)) (by decide)
      refine ⟨sz_of (by omega), ?_⟩
      by_cases c0 : n = 0
      · rw [if_pos c0]
        refine ⟨p, l, _, _, rfl, hP4, by omega, by decide, by decide, fun x H5 x0 x1 d5 => ?_⟩
        obtain ⟨y, rfl⟩ : ∃ y : Nat, x = (y : Int) := ⟨x.toNat, by omega⟩
        have hnl := TL.numL_len (n := y) (k := 3) (by decide) (by omega)
        refine ⟨_, rfl, hlog _ x0 (by omega), ?_, ?_⟩
        · rw [SX.num_S, S_len]
          exact sz_of (by omega)
        · rw [SX.num_S, S_app]
          exact fin _ _ _ _ (.zero (by omega)) ((dd'.trans d5).mono (by omega))
      · rw [if_neg c0]
        by_cases c1 : n = 1
        · rw [if_pos c1]
          refine ⟨p, l, _, _, rfl, hP4, by omega, by decide, by decide, fun x H5 x0 x1 d5 => ?_⟩
          obtain ⟨y, rfl⟩ : ∃ y : Nat, x = (y : Int) := ⟨x.toNat, by omega⟩
          have e1 : (1 : Int) + (y : Int) = ((y + 1 : Nat) : Int) := by omega
          have e2 : Str.ofString (toString ((1 : Int) + (y : Int))) = S [48 + (y + 1)] := by
            rw [e1, SX.num_S, TL.numL_lt (by omega)]
          refine ⟨_, rfl, hlog _ (by omega) (by omega), ?_, ?_⟩
          · rw [e2, S_len, List.length_range']
            exact (by decide : 1 + 9 ≤ sizeLine)
          · refine ⟨p, l, _, _, rfl, d5.2, by omega, by decide, by decide, fun m2 H6 y0 y1 d6 => ?_⟩
            refine ⟨m2, rfl, by decide, by omega, by omega, ?_, ?_⟩
            · rw [e2, S_app, S_len, repL_one, List.length_replicate]
              show 1 + 9 + m2.toNat ≤ _
              exact sz_of (by omega)
            · rw [e2, S_app, S_app, repL_one]
              exact fin _ _ _ _ (.long (d := y + 1) (k := m2.toNat) (by omega) (by omega) (by omega)) (((dd'.trans d5).trans d6).mono (by omega))
        · rw [if_neg c1]
          by_cases c2 : n = 2
          · rw [if_pos c2]
            refine ⟨sz_of (by omega), sz_of (by omega), p, l, _, _, rfl, hP4, by omega, .inl ⟨_, by rw [bad_esc_codes], by decide, by decide, fun ch H5 hm d5 => ?_⟩⟩
            refine ⟨S [ch], rfl, ?_, ?_, ?_⟩
            · rw [List.length_append]
              show (z.flatMap escape).length + 1 + 1 + 1 ≤ _
              exact sz_of (by omega)
            · rw [S_app, S_len, List.cons_append, List.length_cons, List.length_append, List.length_append]
              show (z.flatMap escape).length + 1 + 1 + 1 + 2 ≤ _
              exact sz_of (by omega)
            · have hall : ∀ ch ∈ [116, 97, 98, 78, 32, 48, 39, 40], esc? ch = none ∧ ch < 128 := by decide
              have h := fin _ _ _ H5 (.esc (c := ch) hzl ha (hall ch hm).1 (hall ch hm).2) ((dd'.trans d5).mono (by omega))
              rw [S_app, S_app]
              have e : (34 :: (z.flatMap escape ++ [92]) ++ [ch] ++ [110, 34]) = (34 :: z.flatMap escape ++ [92, ch, 110, 34]) := by simp
              rw [e]
              exact h
          · rw [if_neg c2]
            by_cases c3 : n = 3
            · rw [if_pos c3]
              refine ⟨sz_of (by omega), sz_of (by omega), ?_, ?_⟩
              · rw [List.length_append]
                show (z.flatMap escape).length + 1 + 1 + 1 ≤ _
                exact sz_of (by omega)
              · have h := fin _ _ _ H4 (.tab hzl ha) (dd'.mono (by omega))
                have e : (34 :: (z.flatMap escape ++ [9] ++ [34])) = (34 :: z.flatMap escape ++ [9, 34]) := by simp
                rw [e]
                exact h
            · rw [if_neg c3]
              by_cases c4 : n = 4
              · rw [if_pos c4]
                exact fin _ _ _ H4 (.opn (by omega) hpl) (dd'.mono (by omega))
              · rw [if_neg c4]
                by_cases c5 : n = 5
                · rw [if_pos c5]
                  refine ⟨sz_of (by omega), sz_of (by omega), ?_⟩
                  exact fin _ _ _ H4 (.back (by omega) hpl) (dd'.mono (by omega))
                · rw [if_neg c5]
                  refine ⟨by decide, fun F hF => ?_⟩
                  refine ⟨p, l, _, _, rfl, hP4.ex (Ex.new hF), by omega, .inr ⟨F, _, rfl, .inl upd_same, by decide, by decide, fun x H5 hm d5 => ?_⟩⟩
                  have dn : Drawn p l (c + 200) H H5 := ⟨(dd'.1.trans (.new hF)).trans d5.1, d5.2.mono (by omega)⟩
                  have hall : ∀ s ∈ ["A", "Z", ";", "_", "-", "'", "~", "=", ",", "\t", "\\", "[", "]", "`"], ∃ ch : Nat, Str.ofString s = S [ch] ∧ isL ch = false ∧ isD ch = false ∧ ch ≠ 34 ∧ ch ≠ 40 ∧ ch ≠ 41 ∧ ch ≠ 32 ∧ ch < 128 := by
                    intro s hs
                    simp only [List.mem_cons, List.not_mem_nil, or_false] at hs
                    rcases hs with rfl | rfl | rfl | rfl | rfl | rfl | rfl | rfl | rfl | rfl | rfl | rfl | rfl | rfl
                    · exact ⟨65, by decide +kernel, by decide⟩
                    · exact ⟨90, by decide +kernel, by decide⟩
                    · exact ⟨59, by decide +kernel, by decide⟩
                    · exact ⟨95, by decide +kernel, by decide⟩
                    · exact ⟨45, by decide +kernel, by decide⟩
                    · exact ⟨39, by decide +kernel, by decide⟩
                    · exact ⟨126, by decide +kernel, by decide⟩
                    · exact ⟨61, by decide +kernel, by decide⟩
                    · exact ⟨44, by decide +kernel, by decide⟩
                    · exact ⟨9, by decide +kernel, by decide⟩
                    · exact ⟨92, by decide +kernel, by decide⟩
                    · exact ⟨91, by decide +kernel, by decide⟩
                    · exact ⟨93, by decide +kernel, by decide⟩
                    · exact ⟨96, by decide +kernel, by decide⟩
                  have hx : ∃ s ∈ ["A", "Z", ";", "_", "-", "'", "~", "=", ",", "\t", "\\", "[", "]", "`"], x = .str (Str.ofString s) := by
                    have e : ["A", "Z", ";", "_", "-", "'", "~", "=", ",", "\t", "\\", "[", "]", "`"].map (fun s => V.str (Str.ofString s)) = [V.str (Str.ofString "A"), V.str (Str.ofString "Z"), V.str (Str.ofString ";"), V.str (Str.ofString "_"), V.str (Str.ofString "-"), V.str (Str.ofString "'"), V.str (Str.ofString "~"), V.str (Str.ofString "="), V.str (Str.ofString ","), V.str (S [9]), V.str (S [92]), V.str (Str.ofString "["), V.str (Str.ofString "]"), V.str (Str.ofString "`")] := by
                      rw [← tab_codes, ← back_codes]; rfl
                    rw [← e] at hm
                    obtain ⟨s, hs, es⟩ := List.mem_map.mp hm
                    exact ⟨s, hs, es.symm⟩
                  obtain ⟨s, hs, rfl⟩ := hx
                  obtain ⟨ch, es, a1, a2, a3, a4, a5, a6, a7⟩ := hall s hs
                  rw [es]
                  exact fin _ _ _ H5 (.sign a1 a2 a3 a4 a5 a6 a7) dn
end
end K33

namespace K33
open PySem L2 Lay
/-! The words of a line that is put together of words. -/
theorem takeWhile_app {p : Nat → Bool} : ∀ {z rest : List Nat}, (∀ c ∈ z, p c = true) → (∀ c, rest.head? = some c → p c = false) → (z ++ rest).takeWhile p = z
  | [], rest, _, h => by
    cases rest with
    | nil => rfl
    | cons c r =>
      show (c :: r).takeWhile p = []
      rw [List.takeWhile_cons, if_neg (by rw [h c rfl]; decide)]
  | c :: z, rest, ha, h => by
    show (c :: (z ++ rest)).takeWhile p = c :: z
    rw [List.takeWhile_cons, if_pos (ha c List.mem_cons_self), takeWhile_app (fun d hd => ha d (List.mem_cons_of_mem _ hd)) h]
theorem drop_pre (pre r : List Nat) : (pre ++ r).drop pre.length = r := List.drop_left
theorem runEnd_app {p : Nat → Bool} {pre z rest : List Nat} (ha : ∀ c ∈ z, p c = true) (h : ∀ c, rest.head? = some c → p c = false) : runEnd (pre ++ (z ++ rest)) pre.length p = pre.length + z.length := by
  unfold runEnd
  rw [drop_pre, takeWhile_app ha h]
theorem takeWhile_ge {p : Nat → Bool} : ∀ {z rest : List Nat}, (∀ c ∈ z, p c = true) → z.length ≤ ((z ++ rest).takeWhile p).length
  | [], rest, _ => Nat.zero_le _
  | c :: z, rest, ha => by
    show _ ≤ ((c :: (z ++ rest)).takeWhile p).length
    rw [List.takeWhile_cons, if_pos (ha c List.mem_cons_self), List.length_cons, List.length_cons]
    exact Nat.succ_le_succ (takeWhile_ge fun d hd => ha d (List.mem_cons_of_mem _ hd))
theorem runEnd_app_ge {p : Nat → Bool} {pre z rest : List Nat} (ha : ∀ c ∈ z, p c = true) : pre.length + z.length ≤ runEnd (pre ++ (z ++ rest)) pre.length p := by
  unfold runEnd
  rw [drop_pre]
  have := takeWhile_ge (p := p) (z := z) (rest := rest) ha
  omega
theorem getD_pre (pre r : List Nat) (c : Nat) : (pre ++ c :: r).getD pre.length 0 = c := by
  simp [List.getD]
theorem escape_quo (c : Nat) (hs : sgn c = true) (p : Nat) (t acc : List Nat) : quo p (escape c ++ t) acc = quo (p + (escape c).length) t (acc ++ [c]) := by
  unfold escape
  by_cases h1 : c = 92
  · subst h1
    rw [if_pos rfl]
    show quo p (92 :: 92 :: t) acc = _
    rw [quo.eq_def]
    rfl
  · rw [if_neg h1]
    by_cases h2 : c = 34
    · subst h2
      rw [if_pos rfl]
      show quo p (92 :: 34 :: t) acc = _
      rw [quo.eq_def]
      rfl
    · rw [if_neg h2]
      by_cases h3 : c = 10
      · subst h3
        rw [if_pos rfl]
        show quo p (92 :: 110 :: t) acc = _
        rw [quo.eq_def]
        rfl
      · rw [if_neg h3]
        show quo p (c :: t) acc = _
        rw [quo.eq_def]
        simp [h1, h2, hs]
theorem quo_esc : ∀ (z : List Nat), (∀ c ∈ z, sgn c = true) → ∀ (p : Nat) (t acc : List Nat), quo p (z.flatMap escape ++ t) acc = quo (p + (z.flatMap escape).length) t (acc ++ z)
  | [], _, p, t, acc => by simp
  | c :: r, h, p, t, acc => by
    rw [List.flatMap_cons, List.append_assoc, escape_quo c (h c List.mem_cons_self), quo_esc r (fun d hd => h d (List.mem_cons_of_mem _ hd)), List.length_append, Nat.add_assoc, List.append_assoc]
    rfl
theorem quo_plain : ∀ (z : List Nat), (∀ c ∈ z, sgn c = true ∧ c ≠ 34 ∧ c ≠ 92) → ∀ (p : Nat) (t acc : List Nat), quo p (z ++ t) acc = quo (p + z.length) t (acc ++ z)
  | [], _, p, t, acc => by simp
  | c :: r, h, p, t, acc => by
    obtain ⟨h1, h2, h3⟩ := h c List.mem_cons_self
    have e : quo p (c :: (r ++ t)) acc = quo (p + 1) (r ++ t) (acc ++ [c]) := by
      rw [quo.eq_def]
      simp [h1, h2, h3]
    show quo p (c :: (r ++ t)) acc = _
    rw [e, quo_plain r (fun d hd => h d (List.mem_cons_of_mem _ hd)), List.length_cons, List.append_assoc]
    congr 1
    omega
theorem numL_head : ∀ (n : Nat), 0 < n → ∀ c r, TL.numL n = c :: r → c ≠ 48 := by
  intro n
  induction n using Nat.strongRecOn with
  | _ n ih =>
    intro h0 c r e
    by_cases h : n < 10
    · rw [TL.numL_lt h] at e
      injection e with e1 e2
      omega
    · rw [TL.numL_step (by omega)] at e
      cases e2 : TL.numL (n / 10) with
      | nil => exact absurd e2 (TL.numL_ne _)
      | cons d s =>
        rw [e2] at e
        injection e with e3 e4
        rw [← e3]
        exact ih (n / 10) (by omega) (by omega) d s e2
theorem numL_isD (n : Nat) : ∀ c ∈ TL.numL n, isD c = true := fun c hc => by
  have := TL.numL_digits n c hc
  unfold isD
  simp [this.1, this.2]
/-- what stands behind does not go on with the word -/
def NoJoin (wr rest : List Nat) : Prop := ∀ x y, wr.getLast? = some x → rest.head? = some y → ¬ ((isL x = true ∧ isL y = true) ∨ (isD x = true ∧ isD y = true))
theorem no_of {p : Nat → Bool} {wr rest : List Nat} (hne : wr ≠ []) (ha : ∀ c ∈ wr, p c = true) (hn : NoJoin wr rest) (hp : ∀ x y, p x = true → p y = true → (isL x = true ∧ isL y = true) ∨ (isD x = true ∧ isD y = true)) : ∀ c, rest.head? = some c → p c = false := fun c hc => by
  obtain ⟨x, hx, hm⟩ := last_some hne
  cases e : p c with
  | false => rfl
  | true => exact absurd (hp x c (ha x hm) e) (hn x c hx hc)
theorem isL_not_D {c : Nat} (h : isD c = true) : isL c = false := by
  unfold isD at h
  unfold isL
  simp only [Bool.and_eq_true, decide_eq_true_eq] at h
  simp only [Bool.and_eq_false_iff, decide_eq_false_iff_not]
  omega
theorem right_at {kd : Str} {v : V} {wr pre rest : List Nat} (h : Right kd v wr) (hn : NoJoin wr rest) : wordAt (pre ++ (wr ++ rest)) pre.length = (kd, v, pre.length + wr.length) := by
  cases h with
  | name hz hl ha =>
    have hr := runEnd_app (pre := pre) ha (no_of hz ha hn fun x y a b => .inl ⟨a, b⟩)
    cases wr with
    | nil => exact absurd rfl hz
    | cons c r =>
      unfold wordAt
      have e0 : (pre ++ (c :: r ++ rest)).getD pre.length 0 = c := getD_pre pre (r ++ rest) c
      simp only [e0, ha c List.mem_cons_self, if_true]
      rw [hr, drop_pre, Nat.add_sub_cancel_left, List.take_left]
  | @num n hlt =>
    have hd := numL_isD n
    have hne := TL.numL_ne n
    have hr := runEnd_app (pre := pre) hd (no_of hne hd hn fun x y a b => .inr ⟨a, b⟩)
    have hlen := TL.numL_len (n := n) (k := 9) (by decide) hlt
    have hdg : digs (pre ++ (TL.numL n ++ rest)) pre.length = TL.numL n := by
      unfold digs
      rw [hr, drop_pre, Nat.add_sub_cancel_left, List.take_left]
    cases e : TL.numL n with
    | nil => exact absurd e hne
    | cons c r =>
      rw [e] at hr hdg hd hlen
      have e0 : (pre ++ (c :: r ++ rest)).getD pre.length 0 = c := getD_pre pre (r ++ rest) c
      have hc := hd c List.mem_cons_self
      have h48 : ¬ (c = 48 ∧ pre.length + 1 < pre.length + (c :: r).length) := fun ⟨z1, z2⟩ => by
        by_cases hn0 : n = 0
        · subst hn0
          have : TL.numL 0 = [48] := TL.numL_lt (by decide)
          rw [this] at e
          injection e with e1 e2
          rw [← e2] at z2
          simp at z2
        · exact numL_head n (by omega) c r e z1
      unfold wordAt
      simp only [e0, isL_not_D hc, hc, hr, if_true, if_neg h48, if_neg (show ¬ pre.length + 9 < pre.length + (c :: r).length by omega), hdg]
      rw [← e, TL.numL_val]
      rfl
  | @quo z hl ha =>
    have e0 : (pre ++ (quoted z ++ rest))[pre.length]? = some 34 := by
      unfold quoted
      simp
    rw [wordAt_quo e0]
    have e1 : (pre ++ (quoted z ++ rest)).drop (pre.length + 1) = z.flatMap escape ++ (34 :: rest) := by
      rw [← List.drop_drop, drop_pre]
      unfold quoted
      simp
    have e2 : K33.quo (pre.length + 1 + (z.flatMap escape).length) (34 :: rest) ([] ++ z) = .ok z (pre.length + 1 + (z.flatMap escape).length) := by
      rw [quo.eq_def]
      simp
    rw [e1, quo_esc z ha, e2]
    have : (quoted z).length = (z.flatMap escape).length + 2 := by unfold quoted; rw [List.length_append, List.length_cons]; rfl
    rw [this]
    show ((Str.ofString "quoted", V.str (S z), pre.length + 1 + (z.flatMap escape).length + 1) : Str × V × Nat) = _
    congr 2
    omega
  | @br c hc =>
    have e0 : (pre ++ ([c] ++ rest)).getD pre.length 0 = c := getD_pre pre rest c
    unfold wordAt
    rcases hc with rfl | rfl
    · simp only [e0]
      rfl
    · simp only [e0]
      rfl
def ends (kd : Str) (wr : List Nat) : Bool := decide (kd = "bad quoted") && !(decide (wr.getLast? = some 34) && decide (1 < wr.length))
theorem wrong_at {kd : Str} {v : Int} {wr pre rest : List Nat} (h : Wrong kd v wr) (hr : ends kd wr = true → ∃ t, rest = blanks t) :
    (wordAt (pre ++ (wr ++ rest)) pre.length).1 = kd ∧ (wordAt (pre ++ (wr ++ rest)) pre.length).2.1 = .int (v + ((pre.length : Int) + 1)) ∧ badK kd = true := by
  cases h with
  | @zero n hn =>
    have hd : ∀ c ∈ 48 :: TL.numL n, isD c = true := fun c hc => by
      rcases List.mem_cons.mp hc with q | q
      · rw [q]; decide
      · exact numL_isD n c q
    have hg := runEnd_app_ge (pre := pre) (rest := rest) hd
    have hl : 1 ≤ (TL.numL n).length := List.length_pos_iff.mpr (TL.numL_ne n)
    have e0 : (pre ++ (48 :: TL.numL n ++ rest)).getD pre.length 0 = 48 := getD_pre pre (TL.numL n ++ rest) 48
    rw [List.length_cons] at hg
    have e : wordAt (pre ++ (48 :: TL.numL n ++ rest)) pre.length = (Str.ofString "bad number", .int ((pre.length : Int) + 2), runEnd (pre ++ (48 :: TL.numL n ++ rest)) pre.length isD) := by
      unfold wordAt
      have hq : pre.length + 1 < runEnd (pre ++ (48 :: TL.numL n ++ rest)) pre.length isD := by omega
      simp only [e0, show isL 48 = false by decide, show isD 48 = true by decide, hq, and_self, if_true]
      rfl
    rw [e]
    refine ⟨rfl, ?_, by decide +kernel⟩
    show V.int _ = V.int _
    congr 1
    omega
  | @long d k h1 h2 h3 =>
    have hd : ∀ c ∈ (48 + d) :: (List.range' 48 9 ++ List.replicate k 57), isD c = true := fun c hc => by
      rcases List.mem_cons.mp hc with q | q
      · rw [q]; unfold isD; simp; omega
      · rcases List.mem_append.mp q with q | q
        · rw [List.mem_range'_1] at q; unfold isD; simp; omega
        · rw [(List.mem_replicate.mp q).2]; decide
    have hg := runEnd_app_ge (pre := pre) (rest := rest) hd
    have e0 : (pre ++ ((48 + d) :: (List.range' 48 9 ++ List.replicate k 57) ++ rest)).getD pre.length 0 = 48 + d := by rw [List.cons_append]; exact getD_pre pre _ (48 + d)
    have hD := hd (48 + d) List.mem_cons_self
    rw [List.length_cons, List.length_append, List.length_range'] at hg
    have e : wordAt (pre ++ ((48 + d) :: (List.range' 48 9 ++ List.replicate k 57) ++ rest)) pre.length = (Str.ofString "bad number", .int ((pre.length : Int) + 10), runEnd (pre ++ ((48 + d) :: (List.range' 48 9 ++ List.replicate k 57) ++ rest)) pre.length isD) := by
      unfold wordAt
      simp only [e0, isL_not_D hD, hD, if_neg (show ¬ (48 + d = 48 ∧ pre.length + 1 < runEnd (pre ++ ((48 + d) :: (List.range' 48 9 ++ List.replicate k 57) ++ rest)) pre.length isD) from fun z => by omega),
        if_pos (show pre.length + 9 < runEnd (pre ++ ((48 + d) :: (List.range' 48 9 ++ List.replicate k 57) ++ rest)) pre.length isD by omega)]
      rfl
    rw [e]
    refine ⟨rfl, ?_, by decide +kernel⟩
    show V.int _ = V.int _
    congr 1
    omega
  | @esc z c hl ha hc hb =>
    have e0 : (pre ++ (34 :: z.flatMap escape ++ [92, c, 110, 34] ++ rest))[pre.length]? = some 34 := by simp
    have e1 : (pre ++ (34 :: z.flatMap escape ++ [92, c, 110, 34] ++ rest)).drop (pre.length + 1) = z.flatMap escape ++ (92 :: c :: 110 :: 34 :: rest) := by
      rw [← List.drop_drop, drop_pre]
      simp
    have e2 : quo (pre.length + 1 + (z.flatMap escape).length) (92 :: c :: 110 :: 34 :: rest) ([] ++ z) = .bad (pre.length + 1 + (z.flatMap escape).length) := by
      rw [quo.eq_def]
      simp [hc]
    rw [wordAt_quo e0, e1, quo_esc z ha, e2]
    refine ⟨rfl, ?_, by decide +kernel⟩
    show V.int _ = V.int _
    congr 1
    rw [List.length_cons]
    omega
  | @tab z hl ha =>
    have e0 : (pre ++ (34 :: z.flatMap escape ++ [9, 34] ++ rest))[pre.length]? = some 34 := by simp
    have e1 : (pre ++ (34 :: z.flatMap escape ++ [9, 34] ++ rest)).drop (pre.length + 1) = z.flatMap escape ++ (9 :: 34 :: rest) := by
      rw [← List.drop_drop, drop_pre]
      simp
    have e2 : quo (pre.length + 1 + (z.flatMap escape).length) (9 :: 34 :: rest) ([] ++ z) = .bad (pre.length + 1 + (z.flatMap escape).length) := by
      rw [quo.eq_def]
      rfl
    rw [wordAt_quo e0, e1, quo_esc z ha, e2]
    refine ⟨rfl, ?_, by decide +kernel⟩
    show V.int _ = V.int _
    congr 1
    rw [List.length_cons]
    omega
  | @opn z hl ha =>
    obtain ⟨t, rfl⟩ := hr (by
      unfold ends
      have : (decide ((34 :: z).getLast? = some 34) && decide (1 < (34 :: z).length)) = false := by
        cases z with
        | nil => rfl
        | cons c r =>
          rw [List.getLast?_cons_cons]
          obtain ⟨x, hx, hm⟩ := last_some (l := c :: r) (by simp)
          rw [hx]
          have := (ha x hm).2.1
          simp [this]
      rw [this]
      decide +kernel)
    have e0 : (pre ++ (34 :: z ++ blanks t))[pre.length]? = some 34 := by simp
    have e1 : (pre ++ (34 :: z ++ blanks t)).drop (pre.length + 1) = (z ++ blanks t) ++ [] := by
      rw [← List.drop_drop, drop_pre]
      simp
    have e2 : quo (pre.length + 1 + (z ++ blanks t).length) [] ([] ++ (z ++ blanks t)) = .opn := by
      rw [quo.eq_def]
    rw [wordAt_quo e0, e1, quo_plain (z ++ blanks t) (fun c hc => by
      rcases List.mem_append.mp hc with q | q
      · exact ha c q
      · unfold blanks at q
        rw [(List.mem_replicate.mp q).2]
        decide), e2]
    refine ⟨rfl, ?_, by decide +kernel⟩
    show V.int _ = V.int _
    congr 1
    omega
  | @back z hl ha =>
    obtain ⟨t, rfl⟩ := hr (by
      unfold ends
      have : (34 :: z ++ [92]).getLast? = some 92 := List.getLast?_concat
      rw [this]
      simp)
    have e0 : (pre ++ (34 :: z ++ [92] ++ blanks t))[pre.length]? = some 34 := by simp
    have e1 : (pre ++ (34 :: z ++ [92] ++ blanks t)).drop (pre.length + 1) = z ++ (92 :: blanks t) := by
      rw [← List.drop_drop, drop_pre]
      simp
    have e2 : quo (pre.length + 1 + z.length) (92 :: blanks t) ([] ++ z) = .bad (pre.length + 1 + z.length) := by
      cases t with
      | zero => rw [quo.eq_def]; rfl
      | succ t => rw [quo.eq_def]; rfl
    rw [wordAt_quo e0, e1, quo_plain z ha, e2]
    refine ⟨rfl, ?_, by decide +kernel⟩
    show V.int _ = V.int _
    congr 1
    rw [List.length_cons]
    omega
  | @sign c h1 h2 h3 h4 h5 h6 hb =>
    have e0 : (pre ++ ([c] ++ rest)).getD pre.length 0 = c := getD_pre pre rest c
    have e : wordAt (pre ++ ([c] ++ rest)) pre.length = (Str.ofString "bad sign", .int ((pre.length : Int) + 1), pre.length + 1) := by
      unfold wordAt
      simp only [e0, h1, h2, if_neg h3, if_neg (show ¬ (c = 40 ∨ c = 41) from fun z => z.elim h4 h5)]
      rfl
    rw [e]
    refine ⟨rfl, ?_, by decide +kernel⟩
    show V.int _ = V.int _
    congr 1
    omega
end K33

namespace K33
open PySem L2 Lay
abbrev Wd := Str × V × List Nat
def Items : List Wd → Prop
  | [] => True
  | w :: r => (Right w.1 w.2.1 w.2.2 ∨ ∃ off : Int, w.2.1 = .int off ∧ Wrong w.1 off w.2.2 ∧ (ends w.1 w.2.2 = true → r = [])) ∧ Items r
def addV (v : V) (i : Nat) : V := match v with
  | .int off => .int (off + ((i : Int) + 1))
  | v => v
def due : List Nat → List Wd → List (Str × V × Nat)
  | i :: is, w :: r => if badK w.1 = true then [(w.1, addV w.2.1 i, i)] else (w.1, w.2.1, i) :: due is r
  | _, _ => []
theorem right_ok {kd : Str} {v : V} {wr : List Nat} (h : Right kd v wr) : badK kd = false ∧ ∃ c r, wr = c :: r ∧ isB c = false := by
  cases h with
  | name hz hl ha =>
    refine ⟨by decide +kernel, ?_⟩
    cases wr with
    | nil => exact absurd rfl hz
    | cons c r =>
      refine ⟨c, r, rfl, ?_⟩
      have := ha c List.mem_cons_self
      unfold isL at this
      unfold isB
      simp at this
      simp
      omega
  | @num n hlt =>
    refine ⟨by decide +kernel, ?_⟩
    cases e : TL.numL n with
    | nil => exact absurd e (TL.numL_ne n)
    | cons c r =>
      refine ⟨c, r, rfl, ?_⟩
      have := numL_isD n c (by rw [e]; exact List.mem_cons_self)
      unfold isD at this
      unfold isB
      simp at this
      simp
      omega
  | quo hl ha => exact ⟨by decide +kernel, 34, _, rfl, rfl⟩
  | br hc =>
    refine ⟨by decide +kernel, _, [], rfl, ?_⟩
    rcases hc with rfl | rfl <;> rfl
theorem wrong_ok {kd : Str} {v : Int} {wr : List Nat} (h : Wrong kd v wr) : ∃ c r, wr = c :: r ∧ isB c = false := by
  cases h with
  | zero h => exact ⟨48, _, rfl, rfl⟩
  | long h1 h2 h3 => exact ⟨_, _, rfl, by unfold isB; simp; omega⟩
  | esc hl ha h hb => exact ⟨34, _, rfl, rfl⟩
  | tab hl ha => exact ⟨34, _, rfl, rfl⟩
  | opn hl ha => exact ⟨34, _, rfl, rfl⟩
  | back hl ha => exact ⟨34, _, rfl, rfl⟩
  | sign h1 h2 h3 h4 h5 h6 hb => exact ⟨_, [], rfl, by unfold isB; simp [h6]⟩
theorem blanks_head {t : Nat} {c : Nat} (h : (blanks t).head? = some c) : c = 32 := by
  cases t with
  | zero => cases h
  | succ t => exact (Option.some.inj h).symm
theorem nojoin_of {g : Nat} {wr : List Nat} {r : List Gw} {t : Nat} (hne : ∀ p ∈ r, p.2 ≠ []) (hs : Seps ((g, wr) :: r)) : NoJoin wr (body r ++ blanks t) := by
  intro x y hx hy hsame
  have h32 : y ≠ 32 := by
    intro e
    rw [e] at hsame
    rcases hsame with ⟨_, h⟩ | ⟨_, h⟩ <;> revert h <;> decide
  cases r with
  | nil => exact h32 (blanks_head (t := t) hy)
  | cons q r =>
    have e : body (q :: r) ++ blanks t = blanks q.1 ++ (q.2 ++ (body r ++ blanks t)) := by
      show (blanks q.1 ++ q.2) ++ body r ++ blanks t = _
      simp
    rw [e] at hy
    cases hq : q.1 with
    | zero =>
      rw [hq] at hy
      have hq2 := hne q List.mem_cons_self
      cases hw : q.2 with
      | nil => exact hq2 hw
      | cons d s =>
        rw [hw] at hy
        have e2 : d = y := Option.some.inj hy
        have := hs.1 ⟨x, y, hx, by rw [hw, e2]; rfl, hsame⟩
        omega
    | succ k =>
      rw [hq] at hy
      exact h32 (Option.some.inj hy).symm
theorem lexes : ∀ (ps : List Gw) (ws : List Wd) (l pre : List Nat) (t : Nat), l = pre ++ (body ps ++ blanks t) → ps.map (·.2) = ws.map (·.2.2) → Seps ps → Items ws → Lexes l (runEnd l pre.length isB) (due (place pre.length ps) ws)
  | [], ws, l, pre, t, hl, hm, _, _ => by
    cases ws with
    | cons w r => cases hm
    | nil =>
      have e : runEnd l pre.length isB = l.length := by
        have h := runEnd_app (p := isB) (pre := pre) (z := blanks t) (rest := []) (fun c hc => by unfold blanks at hc; rw [(List.mem_replicate.mp hc).2]; rfl) (fun c hc => by cases hc)
        rw [List.append_nil] at h
        rw [hl]
        show runEnd (pre ++ ([] ++ blanks t)) _ _ = _
        rw [List.nil_append, h, List.length_append]
        rfl
      rw [e]
      exact .done
  | (g, wr) :: r, ws, l, pre, t, hl, hm, hs, hi => by
    cases ws with
    | nil => cases hm
    | cons w r' =>
      have hm2 : wr :: r.map (·.2) = w.2.2 :: r'.map (·.2.2) := hm
      injection hm2 with e1 e2
      obtain ⟨hw, hr'⟩ := hi
      have hne : ∀ p ∈ r, p.2 ≠ [] := by
        intro p hp hz
        have h1 : p.2 ∈ r.map (·.2) := List.mem_map.mpr ⟨p, hp, rfl⟩
        rw [e2] at h1
        obtain ⟨q, hq, eq⟩ := List.mem_map.mp h1
        have : ∀ (xs : List Wd), Items xs → ∀ q ∈ xs, q.2.2 ≠ [] := by
          intro xs
          induction xs with
          | nil => intro _ q hq; cases hq
          | cons x xs ih =>
            intro ⟨hx, hxs⟩ q hq
            rcases List.mem_cons.mp hq with rfl | hq
            · rcases hx with h | ⟨off, _, h, _⟩
              · obtain ⟨_, c, s, e, _⟩ := right_ok h
                rw [e]; simp
              · obtain ⟨c, s, e, _⟩ := wrong_ok h
                rw [e]; simp
            · exact ih hxs q hq
        exact this r' hr' q hq (eq.trans hz)
      have hfirst : ∃ c s, wr = c :: s ∧ isB c = false := by
        rw [e1]
        rcases hw with h | ⟨off, _, h, _⟩
        · exact (right_ok h).2
        · exact wrong_ok h
      obtain ⟨c, s, ec, hcB⟩ := hfirst
      have hl2 : l = pre ++ (blanks g ++ (wr ++ (body r ++ blanks t))) := by
        rw [hl]
        show pre ++ ((blanks g ++ wr) ++ body r ++ blanks t) = _
        simp
      have hl3 : l = (pre ++ blanks g) ++ (wr ++ (body r ++ blanks t)) := by rw [hl2, List.append_assoc]
      have hrun : runEnd l pre.length isB = (pre ++ blanks g).length := by
        rw [hl2, runEnd_app (fun c hc => by unfold blanks at hc; rw [(List.mem_replicate.mp hc).2]; rfl) (fun d hd => by
          rw [ec] at hd
          rw [← Option.some.inj hd]
          exact hcB), List.length_append]
      have hpl : place pre.length ((g, wr) :: r) = (pre ++ blanks g).length :: place ((pre ++ blanks g) ++ wr).length r := by
        show (pre.length + g) :: place (pre.length + g + wr.length) r = _
        rw [List.length_append, List.length_append, List.length_append, blanks_len]
      have hlt : (pre ++ blanks g).length < l.length := by
        rw [hl3, List.length_append (as := pre ++ blanks g), ec]
        show _ < _ + (s ++ (body r ++ blanks t)).length.succ
        omega
      rw [hrun, hpl]
      show Lexes l _ (if badK w.1 = true then [(w.1, addV w.2.1 (pre ++ blanks g).length, (pre ++ blanks g).length)] else (w.1, w.2.1, (pre ++ blanks g).length) :: due (place ((pre ++ blanks g) ++ wr).length r) r')
      rcases hw with h | ⟨off, ev, h, hend⟩
      · rw [← e1] at h
        have hat := right_at (pre := pre ++ blanks g) h (nojoin_of (t := t) hne hs)
        rw [← hl3] at hat
        have hb := (right_ok h).1
        rw [if_neg (by rw [hb]; decide)]
        have hs2 : Seps r := by
          cases r with
          | nil => trivial
          | cons q r => exact hs.2
        have ih := lexes r r' l ((pre ++ blanks g) ++ wr) t (by rw [hl3, List.append_assoc (bs := wr)]) e2 hs2 hr'
        have m := @Lexes.more l (pre ++ blanks g).length (due (place ((pre ++ blanks g) ++ wr).length r) r') hlt (by rw [hat]; exact hb) (by rw [hat]; show _ + wr.length ≤ _; rw [hl3, List.length_append (as := pre ++ blanks g), List.length_append (as := wr)]; omega)
          (by rw [hat]; show Lexes l (runEnd l ((pre ++ blanks g).length + wr.length) isB) _; rw [← List.length_append]; exact ih)
        rw [hat] at m
        exact m
      · rw [← e1] at h hend
        obtain ⟨a1, a2, a3⟩ := wrong_at (pre := pre ++ blanks g) (rest := body r ++ blanks t) h (fun he => by
          have z := hend he
          rw [z] at e2
          have zr : r = [] := List.map_eq_nil_iff.mp e2
          exact ⟨t, by rw [zr]; rfl⟩)
        rw [← hl3] at a1 a2
        rw [if_pos a3]
        have m := @Lexes.bad l (pre ++ blanks g).length hlt (by rw [a1]; exact a3)
        rw [a1, a2] at m
        rw [ev]
        exact m
end K33

namespace K33
open PySem L2 Evl Lay
def wt (H : Hp) (r : V) (w : Wd) : Prop := ∃ a, r = .ref a ∧ H a = some (.tup [.str w.1, w.2.1, .str (S w.2.2)])
theorem wt_mono {H H' : Hp} {r : V} {w : Wd} (e : TupEx H H') (h : wt H r w) : wt H' r w := by
  obtain ⟨a, e1, h1⟩ := h
  exact ⟨a, e1, e _ _ h1⟩
theorem tok_mono {H H' : Hp} {r : V} {q : Str × V × Nat} (e : TupEx H H') (h : tok H r q) : tok H' r q := by
  obtain ⟨a, e1, h1⟩ := h
  exact ⟨a, e1, e _ _ h1⟩
/-- the words, by their tuples -/
abbrev Ws (H : Hp) (refs : List V) (ws : List Wd) : Prop := Paired (wt H) refs ws
theorem ws_of {H : Hp} {G : Wd → Prop} : ∀ {xs : List V}, (∀ x ∈ xs, ∃ w, wt H x w ∧ G w) → ∃ ws, Ws H xs ws ∧ ∀ w ∈ ws, G w
  | [], _ => ⟨[], .nil, fun _ h => (nomatch h)⟩
  | x :: r, h => by
    obtain ⟨w, h1, h2⟩ := h x List.mem_cons_self
    obtain ⟨ws, h3, h4⟩ := ws_of (xs := r) fun y hy => h y (List.mem_cons_of_mem _ hy)
    exact ⟨w :: ws, .cons h1 h3, fun q hq => by
      rcases List.mem_cons.mp hq with e | e
      · rw [e]; exact h2
      · exact h4 q e⟩
theorem Paired.take {α β : Type} {F : α → β → Prop} : ∀ {a : List α} {b : List β} (n : Nat), Paired F a b → Paired F (a.take n) (b.take n)
  | _, _, 0, _ => by simp; exact .nil
  | _, _, _ + 1, .nil => by simp; exact .nil
  | _, _, n + 1, .cons r t => .cons r (Paired.take n t)
theorem Paired.drop {α β : Type} {F : α → β → Prop} : ∀ {a : List α} {b : List β} (n : Nat), Paired F a b → Paired F (a.drop n) (b.drop n)
  | _, _, 0, h => h
  | _, _, _ + 1, .nil => .nil
  | _, _, n + 1, .cons r t => Paired.drop n t
theorem Paired.get {α β : Type} {F : α → β → Prop} : ∀ {a : List α} {b : List β} {i : Nat} {x : α}, Paired F a b → a[i]? = some x → ∃ y, b[i]? = some y ∧ F x y
  | _, _, _, _, .nil, h => by simp at h
  | _, _, 0, _, .cons r _, h => by
    simp at h
    subst h
    exact ⟨_, rfl, r⟩
  | _, _, i + 1, x, .cons _ t, h => by
    obtain ⟨y, h1, h2⟩ := Paired.get (i := i) (x := x) t (by simpa using h)
    exact ⟨y, by simpa using h1, h2⟩
/-- right words, put behind one another; a wrong one among them -/
def RW (w : Wd) : Prop := Right w.1 w.2.1 w.2.2
theorem items_right : ∀ {ws : List Wd}, (∀ w ∈ ws, RW w) → Items ws
  | [], _ => trivial
  | w :: r, h => ⟨.inl (h w List.mem_cons_self), items_right fun q hq => h q (List.mem_cons_of_mem _ hq)⟩
theorem items_mid {off : Int} {kd : Str} {wr : List Nat} {r2 : List Wd} (h : Wrong kd off wr) (he : ends kd wr = true → r2 = []) (h2 : ∀ w ∈ r2, RW w) : ∀ {r1 : List Wd}, (∀ w ∈ r1, RW w) → Items (r1 ++ (kd, .int off, wr) :: r2)
  | [], _ => ⟨.inr ⟨off, rfl, h, he⟩, items_right h2⟩
  | w :: r, h1 => ⟨.inl (h1 w List.mem_cons_self), items_mid h he h2 fun q hq => h1 q (List.mem_cons_of_mem _ hq)⟩
def flat2 (v : V) : Prop := (∃ i, v = .int i) ∨ ∃ l, v = .str (S l) ∧ ∀ c ∈ l, c < 1114112
theorem sgn_lt {c : Nat} (h : sgn c = true) : c < 1114112 := by
  unfold sgn at h
  simp at h
  omega
theorem right_len {kd : Str} {v : V} {wr : List Nat} (h : Right kd v wr) : wr ≠ [] ∧ wr.length ≤ 200 ∧ flat2 v ∧ PyData.strOk kd = true := by
  refine ⟨?_, ?_⟩
  · obtain ⟨_, c, r, e, _⟩ := right_ok h
    rw [e]; simp
  · cases h with
    | name h hl ha =>
      refine ⟨by omega, .inr ⟨_, rfl, fun c hc => ?_⟩, by decide +kernel⟩
      have := ha c hc
      unfold isL at this
      simp at this
      omega
    | @num n h => exact ⟨by have := TL.numL_len (n := n) (k := 9) (by decide) h; omega, .inl ⟨_, rfl⟩, by decide +kernel⟩
    | @quo z hl ha =>
      refine ⟨by have := quoted_len z; omega, .inr ⟨_, rfl, fun c hc => sgn_lt (ha c hc)⟩, by decide +kernel⟩
    | @br c h => exact ⟨(by show 1 ≤ 200; decide), .inr ⟨_, rfl, fun d hd => by rw [List.mem_singleton.mp hd]; omega⟩, by decide +kernel⟩
theorem wrong_len {kd : Str} {v : Int} {wr : List Nat} (h : Wrong kd v wr) : wr ≠ [] ∧ wr.length ≤ 200 := by
  refine ⟨?_, ?_⟩
  · obtain ⟨c, r, e, _⟩ := wrong_ok h
    rw [e]; simp
  · cases h with
    | @zero n h =>
      have := TL.numL_len (n := n) (k := 3) (by decide) h
      rw [List.length_cons]
      omega
    | long h1 h2 h3 =>
      rw [List.length_cons, List.length_append, List.length_range', List.length_replicate]
      omega
    | @esc z c hl ha h hb =>
      have := escape_len z
      rw [List.length_append, List.length_cons]
      show _ + 4 ≤ _
      omega
    | @tab z hl ha =>
      have := escape_len z
      rw [List.length_append, List.length_cons]
      show _ + 2 ≤ _
      omega
    | opn hl ha => rw [List.length_cons]; omega
    | back hl ha =>
      rw [List.length_append, List.length_cons]
      show _ + 1 ≤ _
      omega
    | sign h1 h2 h3 h4 h5 h6 hb => show 1 ≤ 200; decide
theorem esc_lt {z : List Nat} (h : ∀ c ∈ z, sgn c = true) : ∀ c ∈ z.flatMap escape, c < 1114112 := fun c hc => by
  obtain ⟨d, hd, he⟩ := List.mem_flatMap.mp hc
  have hl := sgn_lt (h d hd)
  unfold escape at he
  split at he
  · simp at he; omega
  · split at he
    · simp at he; omega
    · split at he
      · simp at he; omega
      · simp at he; omega
theorem num_lt (n : Nat) : ∀ c ∈ TL.numL n, c < 1114112 := fun c hc => by
  have := TL.numL_digits n c hc
  omega
theorem right_codes {kd : Str} {v : V} {wr : List Nat} (h : Right kd v wr) : ∀ c ∈ wr, c < 1114112 := by
  cases h with
  | name h hl ha =>
    intro c hc
    have := ha c hc
    unfold isL at this
    simp at this
    omega
  | @num n h => exact num_lt n
  | @quo z hl ha =>
    intro c hc
    unfold quoted at hc
    rcases List.mem_append.mp hc with q | q
    · rcases List.mem_cons.mp q with q | q
      · omega
      · exact esc_lt ha c q
    · rw [List.mem_singleton.mp q]; decide
  | @br c h => intro d hd; rw [List.mem_singleton.mp hd]; omega
theorem wrong_codes {kd : Str} {v : Int} {wr : List Nat} (h : Wrong kd v wr) : ∀ c ∈ wr, c < 1114112 := by
  cases h with
  | @zero n h =>
    intro c hc
    rcases List.mem_cons.mp hc with q | q
    · omega
    · exact num_lt n c q
  | @long d k h1 h2 h3 =>
    intro c hc
    rcases List.mem_cons.mp hc with q | q
    · omega
    · rcases List.mem_append.mp q with q | q
      · rw [List.mem_range'_1] at q; omega
      · rw [(List.mem_replicate.mp q).2]; decide
  | @esc z e hl ha h hb =>
    intro c hc
    rcases List.mem_append.mp hc with q | q
    · rcases List.mem_cons.mp q with q | q
      · omega
      · exact esc_lt ha c q
    · simp at q; omega
  | @tab z hl ha =>
    intro c hc
    rcases List.mem_append.mp hc with q | q
    · rcases List.mem_cons.mp q with q | q
      · omega
      · exact esc_lt ha c q
    · simp at q; omega
  | @opn z hl ha =>
    intro c hc
    rcases List.mem_cons.mp hc with q | q
    · omega
    · exact sgn_lt (ha c q).1
  | @back z hl ha =>
    intro c hc
    rcases List.mem_append.mp hc with q | q
    · rcases List.mem_cons.mp q with q | q
      · omega
      · exact sgn_lt (ha c q).1
    · rw [List.mem_singleton.mp q]; decide
  | sign h1 h2 h3 h4 h5 h6 hb => intro d hd; rw [List.mem_singleton.mp hd]; omega
def kb (k : Str) : Bool := decide (k = "bad number") || decide (k = "bad quoted") || decide (k = "bad sign")
theorem right_kb {kd : Str} {v : V} {wr : List Nat} (h : Right kd v wr) : badK kd = kb kd := by cases h <;> decide +kernel
theorem wrong_kb {kd : Str} {v : Int} {wr : List Nat} (h : Wrong kd v wr) : badK kd = kb kd := by cases h <;> decide +kernel
/-- what all words have: they are written, they are flat -/
def WOk (w : Wd) : Prop := w.2.2 ≠ [] ∧ w.2.2.length ≤ 200 ∧ flat2 w.2.1 ∧ (badK w.1 = true → ∃ i, w.2.1 = .int i) ∧ badK w.1 = kb w.1 ∧ PyData.strOk w.1 = true ∧ ∀ c ∈ w.2.2, c < 1114112
theorem right_wok {w : Wd} (h : RW w) : WOk w := by
  obtain ⟨kd, v, wr⟩ := w
  obtain ⟨h1, h2, h3, h4⟩ := right_len h
  refine ⟨h1, h2, h3, fun hb => ?_, ?_, h4, right_codes h⟩
  · have := (right_ok h).1
    rw [this] at hb
    cases hb
  · exact right_kb h
theorem wrong_wok {kd : Str} {v : Int} {wr : List Nat} (h : Wrong kd v wr) : WOk (kd, .int v, wr) := by
  obtain ⟨h1, h2⟩ := wrong_len h
  refine ⟨h1, h2, .inl ⟨v, rfl⟩, fun _ => ⟨v, rfl⟩, wrong_kb h, ?_, wrong_codes h⟩
  show PyData.strOk kd = true
  cases h <;> decide +kernel
/-! ### as data -/
def vD : V → PyData
  | .int i => .int i
  | .str s => .str s
  | _ => .none
def tokD (t : Str × V × Nat) : PyData := .tuple [.str t.1, vD t.2.1, .int ((t.2.2 : Int) + 1)]
theorem vD_dp {K : PySem.W.Frag} {H : Hp} {v : V} (h : flat2 v) : Dp K H v (vD v) := by
  rcases h with ⟨i, rfl⟩ | ⟨s, rfl, _⟩
  · exact .int i
  · exact .str _
theorem tok_dp {K : PySem.W.Frag} {H : Hp} {r : V} {t : Str × V × Nat} (h : tok H r t) (hv : flat2 t.2.1) : Dp K H r (tokD t) := by
  obtain ⟨a, e, ha⟩ := h
  rw [e]
  exact .tup (SqT.of ha) (.cons (.str _) (.cons (vD_dp hv) (.cons (.int _) .nil)))
theorem toks_dp {K : PySem.W.Frag} {H : Hp} : ∀ {rs : List V} {ts : List (Str × V × Nat)}, Paired (tok H) rs ts → (∀ t ∈ ts, flat2 t.2.1) → DpAll K H rs (ts.map tokD)
  | _, _, .nil, _ => .nil
  | _, _, .cons r t, h => .cons (tok_dp r (h _ List.mem_cons_self)) (toks_dp t fun q hq => h q (List.mem_cons_of_mem _ hq))
theorem tokD_lay {t : Str × V × Nat} (h : flat2 t.2.1) (hk : PyData.strOk t.1 = true) : LayD 1 (tokD t) := lay_tuple (n := 0) fun d hd => by
  simp only [List.mem_cons, List.not_mem_nil, or_false] at hd
  rcases hd with rfl | rfl | rfl
  · exact lay_str hk
  · rcases h with ⟨i, e⟩ | ⟨s, e, hs⟩
    · rw [e]; exact lay_int
    · rw [e]; exact lay_str (strOk_S hs)
  · exact lay_int
theorem toks_lay {ts : List (Str × V × Nat)} (h : ∀ t ∈ ts, flat2 t.2.1 ∧ PyData.strOk t.1 = true) : LayD 2 (.list (ts.map tokD)) := lay_list (n := 1) fun d hd => by
  obtain ⟨t, ht, e⟩ := List.mem_map.mp hd
  rw [← e]
  exact tokD_lay (h t ht).1 (h t ht).2
theorem due_flat : ∀ {is : List Nat} {ws : List Wd}, (∀ w ∈ ws, WOk w) → ∀ t ∈ due is ws, flat2 t.2.1 ∧ PyData.strOk t.1 = true
  | [], _, _, t, ht => by unfold due at ht; cases ht
  | _ :: _, [], _, t, ht => by unfold due at ht; cases ht
  | i :: is, w :: r, h, t, ht => by
    have hw := h w List.mem_cons_self
    have ht : t ∈ (if badK w.1 = true then [(w.1, addV w.2.1 i, i)] else (w.1, w.2.1, i) :: due is r) := ht
    by_cases hb : badK w.1 = true
    · rw [if_pos hb] at ht
      rw [List.mem_singleton.mp ht]
      obtain ⟨z, e⟩ := hw.2.2.2.1 hb
      exact ⟨.inl ⟨z + ((i : Int) + 1), by show addV w.2.1 i = _; rw [e]; rfl⟩, hw.2.2.2.2.2.1⟩
    · rw [if_neg hb] at ht
      rcases List.mem_cons.mp ht with e | e
      · rw [e]; exact ⟨hw.2.2.1, hw.2.2.2.2.2.1⟩
      · exact due_flat (fun q hq => h q (List.mem_cons_of_mem _ hq)) t e
theorem runEnd_skip (n : Nat) (r : List Nat) : runEnd (blanks n ++ r) 0 isB = runEnd (blanks n ++ r) n isB := by
  have h : ∀ k ≤ n, runEnd (blanks n ++ r) k isB = runEnd (blanks n ++ r) 0 isB := by
    intro k
    induction k with
    | zero => intro _; rfl
    | succ k ih =>
      intro hk
      rw [← ih (by omega)]
      refine runEnd_go (c := 32) ?_ rfl
      rw [List.getElem?_append_left (by rw [blanks_len]; omega)]
      unfold blanks
      rw [List.getElem?_replicate, if_pos (by omega)]
  exact (h n (Nat.le_refl _)).symm
def wD (w : Wd) : PyData := .tuple [.str w.1, vD w.2.1, .str (S w.2.2)]
theorem ws_dp {K : PySem.W.Frag} {H : Hp} : ∀ {rs : List V} {ws : List Wd}, Ws H rs ws → (∀ w ∈ ws, WOk w) → DpAll K H rs (ws.map wD)
  | _, _, .nil, _ => .nil
  | _, _, .cons ⟨a, e, ha⟩ t, h => .cons (by rw [e]; exact .tup (SqT.of ha) (.cons (.str _) (.cons (vD_dp (h _ List.mem_cons_self).2.2.1) (.cons (.str _) .nil)))) (ws_dp t fun q hq => h q (List.mem_cons_of_mem _ hq))
theorem ws_lay {ws : List Wd} (h : ∀ w ∈ ws, WOk w) : LayD 2 (.list (ws.map wD)) := lay_list (n := 1) fun d hd => by
  obtain ⟨w, hw, e⟩ := List.mem_map.mp hd
  rw [← e]
  obtain ⟨_, _, h3, _, _, h6, h7⟩ := h w hw
  refine lay_tuple (n := 0) fun d hd => ?_
  simp only [List.mem_cons, List.not_mem_nil, or_false] at hd
  rcases hd with rfl | rfl | rfl
  · exact lay_str h6
  · rcases h3 with ⟨i, e⟩ | ⟨s, e, hs⟩
    · rw [e]; exact lay_int
    · rw [e]; exact lay_str (strOk_S hs)
  · exact lay_str (strOk_S h7)
theorem inV_kb (kd : Str) : inV (.str kd) [.str (Str.ofString "bad number"), .str (Str.ofString "bad quoted"), .str (Str.ofString "bad sign")] = kb kd := by
  unfold inV kb
  simp only [List.any_cons, List.any_nil, Bool.or_false]
  have e : ∀ s : Str, eqV (.str s) (.str kd) = decide (kd = s) := fun s => by
    show (s == kd) = _
    by_cases h : kd = s
    · rw [decide_eq_true h, h]
      exact beq_self_eq_true s
    · rw [decide_eq_false h]
      exact beq_eq_false_iff_ne.mpr fun z => h z.symm
  rw [e, e, e, Bool.or_assoc]
theorem due_step {is : List Nat} {ws : List Wd} {i : Nat} {w : Wd} {j : Nat} (h1 : ws[i]? = some w) (h2 : is[i]? = some j) : due (is.drop i) (ws.drop i) = if badK w.1 = true then [(w.1, addV w.2.1 j, j)] else (w.1, w.2.1, j) :: due (is.drop (i + 1)) (ws.drop (i + 1)) := by
  obtain ⟨a1, a2⟩ := List.getElem?_eq_some_iff.mp h1
  obtain ⟨b1, b2⟩ := List.getElem?_eq_some_iff.mp h2
  rw [List.drop_eq_getElem_cons a1, List.drop_eq_getElem_cons b1, a2, b2]
  rfl
theorem last_atG {α : Type} {l : List α} {x : α} (h : l.getLast? = some x) : atI l (-1) = some x := by
  have hn : l ≠ [] := fun z => by rw [z] at h; cases h
  have hl : 0 < l.length := List.length_pos_iff.mpr hn
  unfold atI ixN
  rw [if_neg (by decide), if_pos (by omega)]
  show l[(-1 + (l.length : Int)).toNat]? = some x
  have e : (-1 + (l.length : Int)).toNat = l.length - 1 := by omega
  rw [e, ← List.getLast?_eq_getElem?]
  exact h
theorem due_len : ∀ (is : List Nat) (ws : List Wd), (due is ws).length ≤ ws.length
  | [], _ => Nat.zero_le _
  | _ :: _, [] => Nat.zero_le _
  | i :: is, w :: r => by
    show (if badK w.1 = true then [(w.1, addV w.2.1 i, i)] else (w.1, w.2.1, i) :: due is r).length ≤ r.length + 1
    split
    · exact Nat.succ_le_succ (Nat.zero_le _)
    · exact Nat.succ_le_succ (due_len is r)
theorem lex_line {n t : Nat} {ps : List Gw} {ws : List Wd} (hm : ps.map (·.2) = ws.map (·.2.2)) (hs : Seps ps) (hi : Items ws) : Lexes (blanks n ++ body ps ++ blanks t) (runEnd (blanks n ++ body ps ++ blanks t) 0 isB) (due (place n ps) ws) := by
  have h := lexes ps ws (blanks n ++ body ps ++ blanks t) (blanks n) t (List.append_assoc _ _ _) hm hs hi
  rw [blanks_len] at h
  rw [List.append_assoc, runEnd_skip, ← List.append_assoc]
  exact h
theorem place_last {n : Nat} {init : List Gw} {q : Gw} {t : Nat} : (blanks n ++ body (init ++ [q]) ++ blanks t).take (n + (body init).length + q.1) ++ q.2 = blanks n ++ body (init ++ [q]) := by
  rw [body_snoc]
  have e : blanks n ++ (body init ++ (blanks q.1 ++ q.2)) ++ blanks t = (blanks n ++ body init ++ blanks q.1) ++ (q.2 ++ blanks t) := by simp
  have e2 : n + (body init).length + q.1 = (blanks n ++ body init ++ blanks q.1).length := by
    rw [List.length_append, List.length_append, blanks_len, blanks_len]
  rw [e, e2, List.take_left]
  simp
end K33

namespace K33
open PySem PySem.Spec PyProof.Rows L2 Evl Lay
local macro_rules | `(tactic| walk_at "sx") => `(tactic| simp only [CwR.tReplC, tDisp, tPairs, tBreak, tCont, at0, at1, at2, tSeq, tAsg, tVar, tC, tOp, tUn, rI, rI0, rU, tCB, tCons, tNil, tRet, tIfS, tTest, tB, tAnd, tOr, tNot, tAndV, tOrV, tNotV, tIf, tDGet, sDPut, gName, tNext, rEq, rNe, tDrop, tPar, tAug, tCall, tTup, tLst, tSl, tPart, tNoPart, tYes, tApp, tJoinL, tM1, tM0, tChain,
  tFor_eq, tLc_eq, iListT, iTupT, iRng1, iRng2, iStr, rIxL', rIxT', rIxS, rLenL', rLenT', rInt', rListL', rListT', rTupL', rInT', rInL', rSlL', rSlS, rMulS, rIsB, rInKd, rIxKd, rAllT', rLenX', rLenS', rIxX', reduceCtorEq, false_and, exists_false, or_false, false_or, exists_const, gTupT, gCons, gNil, rCat, dget_upd, dput_upd,
  List.getElem?_cons_zero, List.getElem?_cons_succ, Option.some.injEq, V.int.injEq, V.ref.injEq, V.str.injEq, V.bl.injEq, HO.lst.injEq, HO.tup.injEq, List.cons.injEq, List.cons_append, List.nil_append, List.append_nil,
  exists_eq_left', exists_eq_left, exists_and_left, exists_and_right, and_true, true_and, List.set_cons_zero, List.set_cons_succ, exists_eq_right, exists_eq_right', decide_eq_true_eq, Bool.false_eq_true, if_true, if_false, ite_true, ite_false, and_assoc,
  upd_same, pkv_len, pkv_cells, pkv_at, pkv_digits, pkv_count, pkv_fold, put_at, put_digits, put_count, put_fold, List.length_cons, List.length_nil, decide_true, decide_false, scal_i, scal_s, Nat.reduceAdd, List.map_cons, List.map_nil, HT.sIx_nat, HT.sIx_none, szl0, szl1, szl2, szl3, szl4, szl5, szl6, szl7, szl8, szl9, szl10, szl11, szl12, ipI, wipe, Bool.not_eq_true', Bool.not_true, Bool.not_false, S_eq, S_len, S_cps, S_app, S_cut, S_rep, tyN, tyO, ne_eq, not_false_eq_true, not_true_eq_false])
local macro_rules | `(tactic| walk_at "sy") => `(tactic| simp only [CwR.tReplC, tDisp, tPairs, tBreak, tCont, at0, at1, at2, tSeq, tAsg, tVar, tC, tOp, tUn, rI, rI0, rU, tCB, tCons, tNil, tRet, tIfS, tTest, tB, tAnd, tOr, tNot, tAndV, tOrV, tNotV, tIf, tDGet, sDPut, gName, tNext, rEq, rNe, tDrop, tPar, tAug, tCall, tTup, tLst, tSl, tPart, tNoPart, tYes, tApp, tJoinL, tM1, tM0, tChain,
  tFor_eq, tLc_eq, iListT, iTupT, iRng1, iRng2, iStr, rIxL', rIxT', rIxS, rLenL', rLenT', rInt', rListL', rListT', rTupL', rInT', rInL', rSlL', rSlS, rMulS, rIsB, rInKd, rIxKd, rAllT', rLenX', rLenS', rIxX', reduceCtorEq, false_and, exists_false, or_false, false_or, exists_const, gTupT, gCons, gNil, rCat, dget_upd, dput_upd,
  List.getElem?_cons_zero, List.getElem?_cons_succ, Option.some.injEq, V.int.injEq, V.ref.injEq, V.str.injEq, V.bl.injEq, HO.lst.injEq, HO.tup.injEq, List.cons.injEq, List.cons_append, List.nil_append, List.append_nil,
  exists_eq_left', exists_eq_left, exists_and_left, exists_and_right, and_true, true_and, List.set_cons_zero, List.set_cons_succ, exists_eq_right, exists_eq_right', decide_eq_true_eq, Bool.false_eq_true, if_true, if_false, ite_true, ite_false, and_assoc,
  upd_same, pkv_len, pkv_cells, pkv_at, pkv_digits, pkv_count, pkv_fold, put_at, put_digits, put_count, put_fold, List.length_cons, List.length_nil, decide_true, decide_false, scal_i, scal_s, Nat.reduceAdd, List.map_cons, List.map_nil, HT.sIx_nat, HT.sIx_none, szl0, szl1, szl2, szl3, szl4, szl5, szl6, szl7, szl8, szl9, szl10, szl11, szl12, ipI, wipe, Bool.not_eq_true', Bool.not_true, Bool.not_false, S_eq, S_len, S_cps, S_app, S_cut, S_rep, tyN, tyO, ne_eq, not_false_eq_true, not_true_eq_false, *])

section
variable {P : Program} {w : World} {K : PySem.W.Frag} {mg : Str → Option Value} {base : Heap}
theorem law_ok (T : Txt w K mg) : Ok P w K mg base CX0 20 "law" ["_law_script"] (spLaw K) := by
  refine T.d_law.ok sc_law (fun _ _ _ _ _ _ us hl => match us, hl with | [_], _ => rfl) (fun vs H Q E h => ?_) (fun cdv A outer s H vs Q E hr h => ?_)
  · obtain ⟨a, ns, rfl, _⟩ := h
    rfl
  · obtain ⟨a, ns, rfl, hS, hn, k⟩ := h
    refine ⟨_, (pss_cons (ps_set (i := 1) sc_law.nd rfl (by first | exact Or.inl rfl | exact Or.inr rfl) (pe_callO (ok_Lpen T) (hr.mono (by decide)) (pa_cons (pv 0) pa_nil)))
  (pss_cons (ps_setLc (i := 2) (own := [("_law_k", 3)]) rfl sc_law.nd rfl rfl (sw_true rfl rfl rfl (by decide +kernel)) (pi_range1 (by rfl) T.n_range (pa_cons (pe_callO (ok_Ldraw T) (hr.mono (by decide)) (pa_cons (pv 1) (pa_cons pe_int pa_nil))) pa_nil)) (blkOk_by (own := [("_law_k", 3)]) (N := N_law) (sc := defScope s_law) (by decide +kernel)) (fun _ _ _ _ _ => (pg_name (i := 3) sc_law.nd rfl (by first | exact Or.inl rfl | exact Or.inr rfl))) (fun _ _ _ _ _ => pts_nil) (fun _ _ _ _ _ => (pe_callO (ok_Lright_word T) (hr.mono (by decide)) (pa_cons (pv 1) pa_nil))))
  (pss_cut (ps_if (pt_cmpR op_eq (pe_callO (ok_Ldraw T) (hr.mono (by decide)) (pa_cons (pv 1) (pa_cons pe_int pa_nil))) pe_int (nomark _))
    (pss_cons (ps_par (i := 4) (j := 5) (by rfl) sc_law.nd rfl rfl (by decide) rfl rfl (pa_cons (pe_callO (ok_Lwrong_word T) (hr.mono (by decide)) (pa_cons (pv 1) pa_nil)) (pa_cons (pe_callO (ok_Ldraw T) (hr.mono (by decide)) (pa_cons (pv 1) (pa_cons (pe_op op_add (pe_callB call_lenL (by rfl) T.n_len PySem.boot_len (pa_cons (pv 2) pa_nil)) pe_int) pa_nil))) pa_nil)) (by rfl))
  (pss_cut (ps_set (i := 6) sc_law.nd rfl (by first | exact Or.inl rfl | exact Or.inr rfl) (pe_and (pe_cmpR op_eq (pe_ix ix_tT (pv 4) pe_int (fun _ _ => rfl)) pe_str (nomark _)) (pe_one (pe_not (pe_and (pe_cmpR op_eq (pe_ix ix_str (pe_ix ix_tT (pv 4) pe_int (fun _ _ => rfl)) (pe_un un_neg pe_int) (fun _ _ => rfl)) pe_str (nomark _)) (pe_one (pe_cmpR op_gt (pe_callB call_len_str (by rfl) T.n_len PySem.boot_len (pa_cons (pe_ix ix_tT (pv 4) pe_int (fun _ _ => rfl)) pa_nil)) pe_int (nomark _))))))))
  (pss_one (ps_set (i := 2) sc_law.nd rfl (by first | exact Or.inl rfl | exact Or.inr rfl) (pe_op op_cat (pe_op op_cat (pe_slice sl_lT (pv 2) po_none (po_some (pv 5))) (pe_lst (pa_cons (pv 4) pa_nil))) (pe_ifExp (pt_val (pv 6)) (pe_lst pa_nil) (pe_slice sl_lT (pv 2) (po_some (pv 5)) po_none)))))))
    pss_nil)
  (pss_cons (ps_asg (pe_callO (ok_Lline_of_words T) (hr.mono (by decide)) (pa_cons (pv 1) (pa_cons (pe_lc (own := [("_law_word", 9)]) rfl sc_law.nd (pi_lT (pv 2)) (blkOk_by (own := [("_law_word", 9)]) (N := N_law) (sc := defScope s_law) (by decide +kernel)) (fun _ _ _ _ _ => (pg_name (i := 9) sc_law.nd rfl (by first | exact Or.inl rfl | exact Or.inr rfl))) (fun _ _ _ _ _ => pts_nil) (fun _ _ _ _ _ => (pe_ix ix_tT (pv 9) pe_int (fun _ _ => rfl)))) pa_nil))) (pg_tupT (n := 2) (by rfl) (pgs_cons (pg_name (i := 7) sc_law.nd rfl (by first | exact Or.inl rfl | exact Or.inr rfl)) (pgs_cons (pg_name (i := 8) sc_law.nd rfl (by first | exact Or.inl rfl | exact Or.inr rfl)) pgs_nil))))
  (pss_cons (ps_set (i := 10) sc_law.nd rfl (by first | exact Or.inl rfl | exact Or.inr rfl) (pe_lst pa_nil))
  (pss_cut (ps_for PassesOwn.never rfl (pi_zip (by rfl) T.n_zip (pa_cons (pv 2) (pa_cons (pv 8) pa_nil))) (pg_tupT (n := 2) (by rfl) (pgs_cons (pg_name (i := 9) sc_law.nd rfl (by first | exact Or.inl rfl | exact Or.inr rfl)) (pgs_cons (pg_name (i := 11) sc_law.nd rfl (by first | exact Or.inl rfl | exact Or.inr rfl)) pgs_nil)))
    (pss_cons (ps_set (i := 12) sc_law.nd rfl (by first | exact Or.inl rfl | exact Or.inr rfl) (pe_cmpR op_inT (pe_ix ix_tT (pv 9) pe_int (fun _ _ => rfl)) (pe_tup (pa_cons pe_str (pa_cons pe_str (pa_cons pe_str pa_nil)))) (by rfl)))
  (pss_cons (ps_expr (pe_appOf (pe_bm PySem.F.plainAttrs_list PySem.F.slot_list_append PySem.F.type_list_append mt_append (pe_map (pv 10)) (pa_cons (pe_map (pe_tup (pa_cons (pe_ix ix_tT (pv 9) pe_int (fun _ _ => rfl)) (pa_cons (pe_ifExp (pt_val (pv 12)) (pe_op op_add (pe_ix ix_tT (pv 9) pe_int (fun _ _ => rfl)) (pv 11)) (pe_ix ix_tT (pv 9) pe_int (fun _ _ => rfl))) (pa_cons (pv 11) pa_nil))))) pa_nil))))
  (pss_one (ps_if (pt_val (pv 12))
    (pss_one ps_break)
    pss_nil)))))
  (pss_cut (ps_if (PW.pt (pw_and (pt_cmpR (op_neD hr.units) (pv 2) (pe_lst pa_nil) (nomark _)) (pw_and (pt_cmpR op_eq (pe_ix ix_tT (pe_ix ix_lT (pv 2) (pe_un un_neg pe_int) (fun _ _ => rfl)) pe_int (fun _ _ => rfl)) pe_str (nomark _)) (pw_and1 (pt_cmpR op_eq (pe_ix ix_str (pe_ix ix_tT (pe_ix ix_lT (pv 2) (pe_un un_neg pe_int) (fun _ _ => rfl)) pe_int (fun _ _ => rfl)) (pe_un un_neg pe_int) (fun _ _ => rfl)) pe_str (nomark _))))))
    (pss_one (ps_set (i := 7) sc_law.nd rfl (by first | exact Or.inl rfl | exact Or.inr rfl) (pe_op op_add_str (pe_slice sl_str (pv 7) po_none (po_some (pe_op op_sub (pe_ix ix_lT (pv 8) (pe_un un_neg pe_int) (fun _ _ => rfl)) pe_int))) (pe_ix ix_tT (pe_ix ix_lT (pv 2) (pe_un un_neg pe_int) (fun _ _ => rfl)) pe_int (fun _ _ => rfl)))))
    pss_nil)
  (pss_cons (ps_set (i := 13) sc_law.nd rfl (by first | exact Or.inl rfl | exact Or.inr rfl) (pe_callO (ok_line_words T) (hr.mono (by decide)) (pa_cons (pv 7) pa_nil)))
  (pss_cons (ps_if (PW.pt (pw_or (pt_not (pt_val (pe_callB (call_isB (n := "tuple")) (by rfl) T.n_isinstance (by decide +kernel) (pa_cons (pv 13) (pa_cons (pe_bltn (v := .ty "tuple") (by rfl) T.n_tuple (by decide +kernel) rfl) pa_nil))))) (pw_or1 (pt_cmpR (op_neD hr.units) (pe_callTy call_listT (by rfl) T.n_list (by decide +kernel) (pa_cons (pv 13) pa_nil)) (pv 10) (nomark _)))))
    (pss_one (ps_ret pe_bl))
    pss_nil)
  (pss_cons (ps_set (i := 14) sc_law.nd rfl (by first | exact Or.inl rfl | exact Or.inr rfl) (pe_callO (ok_Lany_word T) (hr.mono (by decide)) (pa_cons (pv 1) (pa_cons pe_int (pa_cons pe_int (pa_cons pe_bl pa_nil))))))
  (pss_one (ps_ret (pe_and (pe_cmpR op_eq (pe_callO (ok_quoted_text T) (hr.mono (by decide)) (pa_cons (pv 14) pa_nil)) (pe_callO (ok_Lquoted T) (hr.mono (by decide)) (pa_cons (pv 14) pa_nil)) (nomark _)) (pe_one (pe_cmpR (op_eqD hr.units) (pe_callO (ok_line_words T) (hr.mono (by decide)) (pa_cons (pe_callO (ok_quoted_text T) (hr.mono (by decide)) (pa_cons (pv 14) pa_nil)) pa_nil)) (pe_tup (pa_cons (pe_tup (pa_cons pe_str (pa_cons (pv 14) (pa_cons pe_int pa_nil)))) pa_nil)) (nomark _)))))))))))))))), ?_⟩
    show tSeq _ _ _ [some (.ref a), none, none, none, none, none, none, none, none, none, none, none, none, none, none] _
    walk_at "sx"
    refine ⟨a, ns, rfl, hS, hn, fun p l H1 e1 hP hp => ?_⟩
    refine ⟨p, l, _, _, rfl, hP, by decide, by decide, by decide, fun n H2 h0 h1 d2 => ?_⟩
    refine ⟨n, rfl, by omega, by omega, fun D hD => ?_⟩
    refine lc_draw (walks_range 0 _) (k := 200) (fun H v => ∃ w : Wd, wt H v w ∧ RW w) (fun _ _ _ e ⟨w, h1, h2⟩ => ⟨w, wt_mono e h1, h2⟩) (by omega) d2.2 hD (fun _ => rfl) ?_ ?_
    · intro i H Q' hi ex hp kk
      walk_at "sx"
      refine ⟨p, l, _, rfl, hp, by omega, fun a kd v wr H' hr d ha => kk _ _ ⟨(kd, v, wr), ⟨a, rfl, ha⟩, hr⟩ d⟩
    intro xs H3 hxl hA hD3 ex3 hP3
    obtain ⟨ws, hws, hrw⟩ := ws_of hA
    refine ⟨fun σ H' => ∃ (D' : Addr) (refs : List V) (ws : List Wd) (x4 x5 x6 : Option V), H' D' = some (.lst refs) ∧ Ws H' refs ws ∧ Items ws ∧ (∀ w ∈ ws, WOk w) ∧ ws.length ≤ 10 ∧ Pen H' p l 3000 ∧
      σ = [some (.ref a), some (.ref p), some (.ref D'), none, x4, x5, x6, none, none, none, none, none, none, none, none], ?_, ?_⟩
    · walk_at "sx"
      refine ⟨p, l, _, _, rfl, hP3, by omega, by decide, by decide, fun m H4 m0 m1 d4 => ?_⟩
      walk_at "sx"
      have nDp : D ≠ p := hP3.nlst hD3
      have hD4 := d4.1 _ _ nDp hD3
      have hws4 : Ws H4 xs ws := Paired.imp (fun _ _ h => wt_mono (hP3.tup d4.1) h) hws
      have hwsl : ws.length ≤ 8 := by rw [← hws.length, hxl]; omega
      by_cases cm : m = 0
      · rw [if_pos cm]
        refine ⟨p, l, _, rfl, d4.2, by omega, fun wa kd v wr H5 hw d5 hwa => ?_⟩
        have hD5 := d5.1 _ _ nDp hD4
        refine ⟨xs, hD5, ?_⟩
        refine ⟨p, l, _, _, rfl, d5.2, by omega, by omega, by omega, fun sp H6 s0 s1 d6 => ?_⟩
        have hD6 := d6.1 _ _ nDp hD5
        have hwa6 := d5.2.tup d6.1 _ _ hwa
        obtain ⟨hwne, hwlen⟩ := wrong_len hw
        obtain ⟨lx, hlx, _⟩ := last_some hwne
        have hla := last_at hlx
        have hsz : wr.length ≤ sizeLine := sz_of (by omega)
        have hws6 : Ws H6 xs ws := Paired.imp (fun _ _ h => wt_mono ((d4.2.tup d5.1).trans (d5.2.tup d6.1)) h) hws4
        refine ⟨fun σ' H' => H6 = H' ∧ σ' = [some (.ref a), some (.ref p), some (.ref D), none, some (.ref wa), some (.int sp), some (.bl (ends kd wr)), none, none, none, none, none, none, none, none], ?_, ?_⟩
        · walk_at "sx"
          simp only [hwa6, hD6, quote_codes]
          walk_at "sx"
          simp only [hla, hsz]
          walk_at "sx"
          unfold ends
          rw [hlx]
          by_cases c1 : kd = Str.ofString "bad quoted"
          · rw [if_pos c1, decide_eq_true c1]
            by_cases c2 : lx = 34
            · rw [if_pos c2, c2]
              have : decide (1 < (wr.length : Int)) = decide (1 < wr.length) := decide_eq_decide.mpr (by omega)
              rw [this]
              simp
            · rw [if_neg c2]
              simp [c2]
          · rw [if_neg c1, decide_eq_false c1]
            rfl
        · rintro σ' H' ⟨rfl, rfl⟩
          obtain ⟨sn, rfl⟩ : ∃ sn : Nat, sp = (sn : Int) := ⟨sp.toNat, by omega⟩
          have hxl8 : xs.length ≤ 8 := by omega
          walk_at "sx"
          simp only [hD6]
          walk_at "sx"
          rw [cutV_take]
          intro q1 hq1 q2 hq2
          have n21 : q1 ≠ q2 := fun z => by rw [← z, upd_same] at hq2; cases hq2
          have nD1 : D ≠ q1 := ne_of_none hD6 hq1
          have nD2 : D ≠ q2 := fun z => by rw [← z, upd_ne nD1, hD6] at hq2; cases hq2
          refine ⟨_, by rw [upd_ne n21, upd_same], ?_, fun q3 hq3 => ?_⟩
          · rw [List.length_take]
            exact sz_of (by omega)
          have e123 : Ex H6 (upd (upd (upd H6 q1 (.lst (xs.take sn))) q2 (.lst [.ref wa])) q3 (.lst (xs.take sn ++ [.ref wa]))) := ((Ex.new hq1).trans (Ex.new hq2)).trans (Ex.new hq3)
          have fin : ∀ (H7 : Hp) (tl : List V) (tw : List Wd) (q5 : Addr), Ex H6 H7 → H7 q5 = none → Ws H6 tl tw → (∀ w ∈ tw, RW w) → min sn ws.length + tw.length ≤ 8 → (ends kd wr = true → tw = []) →
              ∃ D' refs, upd H7 q5 (.lst (xs.take sn ++ [.ref wa] ++ tl)) D' = some (.lst refs) ∧ ∃ x, Ws (upd H7 q5 (.lst (xs.take sn ++ [.ref wa] ++ tl))) refs x ∧ Items x ∧ (∀ w ∈ x, WOk w) ∧ x.length ≤ 10 ∧ Pen (upd H7 q5 (.lst (xs.take sn ++ [.ref wa] ++ tl))) p l 3000 ∧ q5 = D' := fun H7 tl tw q5 e7 hq5 htl htw hcount hend => by
            have e8 : Ex H6 (upd H7 q5 (.lst (xs.take sn ++ [.ref wa] ++ tl))) := e7.trans (Ex.new hq5)
            have hwk : ∀ w ∈ ws.take sn, RW w := fun w hm => hrw w (List.mem_of_mem_take hm)
            refine ⟨q5, _, upd_same, ws.take sn ++ [(kd, .int v, wr)] ++ tw, ?_, by rw [List.append_assoc]; exact items_mid hw hend htw hwk, ?_, ?_, d6.2.ex e8 |>.mono (by omega), rfl⟩
            · exact Paired.app (Paired.app (Paired.imp (fun _ _ h => wt_mono (.of e8) h) (Paired.take sn hws6)) (.cons ⟨wa, rfl, e8 _ _ hwa6⟩ .nil)) (Paired.imp (fun _ _ h => wt_mono (.of e8) h) htl)
            · intro w hm
              rcases List.mem_append.mp hm with h | h
              · rcases List.mem_append.mp h with h | h
                · exact right_wok (hwk w h)
                · rw [List.mem_singleton.mp h]; exact wrong_wok hw
              · exact right_wok (htw w h)
            · rw [List.length_append, List.length_append, List.length_take]
              show _ + 1 + _ ≤ _
              have hk9 : min sn ws.length + tw.length ≤ 8 := hcount
              omega
          cases he : ends kd wr with
          | true =>
            rw [if_pos rfl]
            intro q4 hq4
            have n34 : q3 ≠ q4 := fun z => by rw [← z, upd_same] at hq4; cases hq4
            refine ⟨_, by rw [upd_ne n34, upd_same], ?_, fun q5 hq5 => ?_⟩
            · rw [List.length_append, List.length_take]
              show _ + 1 + 0 ≤ _
              exact sz_of (by omega)
            · have h := fin _ [] [] q5 (e123.trans (Ex.new hq4)) hq5 .nil (fun _ h => (nomatch h)) (by show min sn ws.length + 0 ≤ 8; omega) (fun _ => rfl)
              rw [List.append_nil] at h
              obtain ⟨D', refs, a1, x, a2, a3, a4, a5, a6, a7⟩ := h
              exact ⟨D', refs, a1, x, a2, a3, a4, a5, a6, a7, _, rfl⟩
          | false =>
            rw [if_neg (by decide)]
            have nD3 : D ≠ q3 := fun z => by rw [← z, upd_ne nD2, upd_ne nD1, hD6] at hq3; cases hq3
            refine ⟨xs, by rw [upd_ne nD3, upd_ne nD2, upd_ne nD1]; exact hD6, ?_⟩
            rw [cutV_drop]
            intro q4 hq4
            have n34 : q3 ≠ q4 := fun z => by rw [← z, upd_same] at hq4; cases hq4
            refine ⟨_, by rw [upd_ne n34, upd_same], ?_, fun q5 hq5 => ?_⟩
            · rw [List.length_append, List.length_take, List.length_drop]
              show _ + 1 + _ ≤ _
              exact sz_of (by omega)
            · obtain ⟨D', refs, a1, x, a2, a3, a4, a5, a6, a7⟩ := fin _ (xs.drop sn) (ws.drop sn) q5 (e123.trans (Ex.new hq4)) hq5 (Paired.drop sn hws6) (fun w hm => hrw w (List.mem_of_mem_drop hm)) (by rw [List.length_drop]; omega) (fun z => by rw [he] at z; cases z)
              exact ⟨D', refs, a1, x, a2, a3, a4, a5, a6, a7, _, rfl⟩
      · rw [if_neg cm]
        exact ⟨D, xs, hD4, ws, hws4, items_right hrw, fun w hw => right_wok (hrw w hw), by omega, d4.2.mono (by omega), rfl, _, rfl⟩
    · rintro σ H' ⟨D', refs, ws, x4, x5, x6, hD', hws', hit, hok, hwl, hP', rfl⟩
      walk_at "sx"
      refine ⟨⟨_, hD'⟩, fun E1 hE1 => ?_⟩
      have nDE : D' ≠ E1 := ne_of_none hD' hE1
      have nEp := hP'.ne hE1
      have nEl := hP'.nl hE1
      have hrl : refs.length = ws.length := hws'.length
      refine lcp_by (walks_list refs) (fun i H'' => H'' = upd H' E1 (.lst ((ws.take i).map fun w => V.str (S w.2.2)))) (by rw [List.take_zero]; rfl) (fun i H'' _ e => by rw [e]; exact SqL.of (by rw [upd_ne nDE]; exact hD')) ?_ ?_
      · rintro i H'' hi rfl
        obtain ⟨w, hwi, wa, hwr, hwt⟩ := Paired.get (i := i) (x := refs[i]) hws' (List.getElem?_eq_getElem hi)
        have nwE : wa ≠ E1 := ne_of_none hwt hE1
        have e0 : refs.getD i .non = .ref wa := by rw [List.getD, List.getElem?_eq_getElem hi, hwr]; rfl
        simp only [e0]
        walk_at "sx"
        refine ⟨_, by rw [upd_ne nwE]; exact hwt, ?_⟩
        walk_at "sx"
        refine ⟨?_, ?_⟩
        · rw [List.length_map, List.length_take]
          exact sz_lt (by omega)
        · rw [upd_upd, List.take_succ, hwi, List.map_append]
          rfl
      rintro H'' rfl
      rw [show ws.take refs.length = ws from List.take_of_length_le (by omega)]
      refine ⟨p, l, E1, 3000, ws.map (·.2.2), rfl, hP'.upd nEp nEl, by decide, by rw [upd_same, List.map_map]; rfl, by rw [List.length_map]; exact hwl, ?_, fun n t ps tp cl H4 hps hsp hn2 ht1 hg d4 hcl htp => ?_⟩
      · intro z hz
        obtain ⟨w, hw, e⟩ := List.mem_map.mp hz
        rw [← e]
        exact ⟨(hok w hw).1, (hok w hw).2.1⟩
      have t4 : TupEx H' H4 := (TupEx.new hE1).trans ((hP'.upd nEp nEl).tup d4.1)
      have nDp := hP'.nlst hD'
      have hD4 : H4 D' = some (.lst refs) := d4.1 _ _ nDp (by rw [upd_ne nDE]; exact hD')
      have hws4 : Ws H4 refs ws := Paired.imp (fun _ _ h => wt_mono t4 h) hws'
      refine ⟨tp, rfl, _, htp, rfl, _, _, rfl, _, _, rfl, rfl, fun F hF => ?_⟩
      have nDF : D' ≠ F := ne_of_none hD4 hF
      have ncF : cl ≠ F := ne_of_none hcl hF
      have nFp := d4.2.ne hF
      have nFl := d4.2.nl hF
      have hpsl : ps.length = ws.length := by
        have := congrArg List.length hps
        rw [List.length_map, List.length_map] at this
        exact this
      have hpl : (place n ps).length = ws.length := by rw [place_len, hpsl]
      refine ⟨fun σ H' => ∃ (drefs : List V) (x9 x11 x12 : Option V), H' F = some (.lst drefs) ∧ ExB p H4 H' ∧ Pen H' p l 4000 ∧ Paired (tok H') drefs (due (place n ps) ws) ∧
        σ = [some (.ref a), some (.ref p), some (.ref D'), none, x4, x5, x6, some (.str (S (blanks n ++ body ps ++ blanks t))), some (.ref cl), x9, some (.ref F), x11, x12, none, none], ?_, ?_⟩
      · walk_at "sx"
        refine ⟨_, rfl, _, rfl, D', cl, _, _, rfl, SqL.of (by rw [upd_ne nDF]; exact hD4), SqL.of (by rw [upd_ne ncF]; exact hcl), ?_⟩
        refine RZ.for_zipL (xs := refs) (ys := (place n ps).map fun x : Nat => V.int ((x : Int) + 1)) (by rw [List.length_map, hpl, hrl]) (fun i σ H'' => ∃ (drefs : List V) (dn : List (Str × V × Nat)) (x9 x11 x12 : Option V), H'' F = some (.lst drefs) ∧ ExB p H4 H'' ∧ Pen H'' p l 4000 ∧ Paired (tok H'') drefs dn ∧
          due (place n ps) ws = dn ++ due ((place n ps).drop i) (ws.drop i) ∧ drefs.length ≤ i ∧ σ = [some (.ref a), some (.ref p), some (.ref D'), none, x4, x5, x6, some (.str (S (blanks n ++ body ps ++ blanks t))), some (.ref cl), x9, some (.ref F), x11, x12, none, none])
          ⟨[], [], none, none, none, upd_same, .new hF, (d4.2.upd nFp nFl).mono (by decide), .nil, rfl, Nat.le_refl _, rfl⟩ ?_ ?_ ?_
        · rintro i σ H'' ⟨drefs, dn, x9, x11, x12, hF', ex', hP'', hdn, hdue, hdl, rfl⟩
          exact ⟨SqL.of (ex' _ _ nDp hD4), SqL.of (ex' _ _ (d4.2.nlst hcl) hcl)⟩
        · rintro i x y T σ H'' hx hy ⟨drefs, dn, x9, x11, x12, hF', ex', hP'', hdn, hdue, hdl, rfl⟩ hT
          obtain ⟨w, hwi, wa, hwr, hwt⟩ := Paired.get (i := i) (x := x) hws4 hx
          subst hwr
          obtain ⟨pj, hpj, rfl⟩ : ∃ pj, (place n ps)[i]? = some pj ∧ y = .int ((pj : Int) + 1) := by
            rw [List.getElem?_map] at hy
            cases e : (place n ps)[i]? with
            | none => rw [e] at hy; cases hy
            | some z => rw [e] at hy; exact ⟨z, rfl, (Option.some.inj hy).symm⟩
          have hwt2 : H'' wa = some (.tup [.str w.1, w.2.1, .str (S w.2.2)]) := d4.2.tup ex' _ _ hwt
          have nwT : wa ≠ T := ne_of_none hwt2 hT
          have nFT : F ≠ T := ne_of_none hF' hT
          have hil : i < ws.length := (List.getElem?_eq_some_iff.mp hwi).1
          have hwok := hok w (List.mem_of_getElem? hwi)
          have hst := due_step hwi hpj
          walk_at "sx"
          refine ⟨_, by rw [upd_ne nwT]; exact hwt2, ?_⟩
          walk_at "sx"
          intro U hU
          have eU : Ex H'' (upd (upd H'' T (.tup [V.ref wa, V.int ((pj : Int) + 1)])) U (.tup [.str (Str.ofString "bad number"), .str (Str.ofString "bad quoted"), .str (Str.ofString "bad sign")])) := (Ex.new hT).trans (Ex.new hU)
          generalize (upd (upd H'' T (.tup [V.ref wa, V.int ((pj : Int) + 1)])) U (.tup [.str (Str.ofString "bad number"), .str (Str.ofString "bad quoted"), .str (Str.ofString "bad sign")])) = G at eU
          have hFG := eU _ _ hF'
          have hwG := eU _ _ hwt2
          have hdl2 : drefs.length < sizeLine := sz_lt (by omega)
          refine ⟨rfl, rfl, ?_⟩
          simp only [hwG, hFG, inV_kb]
          walk_at "sx"
          refine ⟨⟨_, rfl⟩, ?_⟩
          have fin : ∀ (v : V) (Z : Addr), G Z = none → ExB p H4 (upd (upd G Z (.tup [.str w.1, v, .int ((pj : Int) + 1)])) F (.lst (drefs ++ [.ref Z]))) ∧ Pen (upd (upd G Z (.tup [.str w.1, v, .int ((pj : Int) + 1)])) F (.lst (drefs ++ [.ref Z]))) p l 4000 ∧
              Paired (tok (upd (upd G Z (.tup [.str w.1, v, .int ((pj : Int) + 1)])) F (.lst (drefs ++ [.ref Z])))) (drefs ++ [.ref Z]) (dn ++ [(w.1, v, pj)]) := fun v Z hZ => by
            have nZF : Z ≠ F := (ne_of_none hFG hZ).symm
            have hFZ : (upd G Z (.tup [.str w.1, v, .int ((pj : Int) + 1)])) F = some (.lst drefs) := by rw [upd_ne nZF.symm]; exact hFG
            refine ⟨((ex'.trans (.of eU)).trans (.new hZ)).mut hF, ((hP''.ex eU).ex (Ex.new hZ)).upd nFp nFl, ?_⟩
            exact Paired.app (Paired.imp (fun _ _ h => tok_upd hFZ (tok_ex (eU.trans (Ex.new hZ)) h)) hdn) (.cons ⟨Z, rfl, by rw [upd_ne nZF, upd_same]⟩ .nil)
          cases hb : kb w.1 with
          | true =>
            have hbad : badK w.1 = true := by rw [hwok.2.2.2.2.1, hb]
            obtain ⟨z, hz⟩ := hwok.2.2.2.1 hbad
            rw [if_pos hbad] at hst
            rw [if_pos rfl, hz]
            refine ⟨z, rfl, fun Z hZ => ?_⟩
            have nZF : Z ≠ F := (ne_of_none hFG hZ).symm
            refine ⟨_, by rw [upd_ne nZF.symm]; exact hFG, hdl2, ?_⟩
            rw [if_pos rfl]
            obtain ⟨f1, f2, f3⟩ := fin (.int (z + ((pj : Int) + 1))) Z hZ
            refine ⟨f1, f2, ?_⟩
            rw [hdue, hst, hz]
            exact ⟨f3, _, rfl⟩
          | false =>
            have hbad : badK w.1 = false := by rw [hwok.2.2.2.2.1, hb]
            rw [if_neg (by rw [hbad]; decide)] at hst
            rw [if_neg (by decide)]
            intro Z hZ
            have nZF : Z ≠ F := (ne_of_none hFG hZ).symm
            refine ⟨_, by rw [upd_ne nZF.symm]; exact hFG, hdl2, ?_⟩
            rw [if_neg (by decide)]
            obtain ⟨f1, f2, f3⟩ := fin w.2.1 Z hZ
            refine ⟨f1, f2, _, f3, ?_, ?_, _, rfl⟩
            · rw [hdue, hst, List.append_assoc]
              rfl
            · rw [List.length_append]
              exact Nat.succ_le_succ hdl
        · rintro σ H'' ⟨drefs, dn, x9, x11, x12, hF', ex', hP'', hdn, hdue, hdl, rfl⟩
          refine ⟨drefs, hF', ex', hP'', ?_, x9, x11, x12, rfl⟩
          rw [List.drop_eq_nil_of_le (show ws.length ≤ refs.length by omega), List.drop_eq_nil_of_le (show (place n ps).length ≤ refs.length by omega)] at hdue
          have : due [] [] = [] := rfl
          rw [this, List.append_nil] at hdue
          rw [hdue]
          exact hdn
      · rintro σ H5 ⟨drefs, x9, x11, x12, hF5, ex5, hP5, hdr, rfl⟩
        have hD5 := ex5 _ _ nDp hD4
        have hws5 : Ws H5 refs ws := Paired.imp (fun _ _ h => wt_mono (d4.2.tup ex5) h) hws4
        have hcl5 := ex5 _ _ (d4.2.nlst hcl) hcl
        have hbl : (body ps).length ≤ 10 * 202 := by
          refine Nat.le_trans (body_len_le 202 ps fun q hq => ?_) (Nat.mul_le_mul_right _ (by omega))
          have hm : q.2 ∈ ps.map (·.2) := List.mem_map.mpr ⟨q, hq, rfl⟩
          rw [hps] at hm
          obtain ⟨w, hw, e⟩ := List.mem_map.mp hm
          have h1 := (hok w hw).2.1
          rw [e] at h1
          have h2 := hg q hq
          omega
        have hLL : (blanks n ++ body ps ++ blanks t).length ≤ 3000 := by
          rw [List.length_append, List.length_append, blanks_len, blanks_len]
          omega
        refine ⟨fun σ H' => ∃ (line : List Nat), Lexes line (runEnd line 0 isB) (due (place n ps) ws) ∧ line.length ≤ 40000 ∧ H' F = some (.lst drefs) ∧ Pen H' p l 4000 ∧ Paired (tok H') drefs (due (place n ps) ws) ∧
          σ = [some (.ref a), some (.ref p), some (.ref D'), none, x4, x5, x6, some (.str (S line)), some (.ref cl), x9, some (.ref F), x11, x12, none, none], ?_, ?_⟩
        · walk_at "sx"
          intro q hq
          have eq6 : Ex H5 (upd H5 q (.lst [])) := Ex.new hq
          have same_line : ∃ line, Lexes line (runEnd line 0 isB) (due (place n ps) ws) ∧ line.length ≤ 40000 ∧ (upd H5 q (.lst [])) F = some (.lst drefs) ∧ Pen (upd H5 q (.lst [])) p l 4000 ∧ Paired (tok (upd H5 q (.lst []))) drefs (due (place n ps) ws) ∧ blanks n ++ body ps ++ blanks t = line :=
            ⟨_, lex_line hps hsp hit, by omega, eq6 _ _ hF5, hP5.ex eq6, Paired.imp (fun _ _ h => tok_ex eq6 h) hdr, rfl⟩
          refine ⟨.list (ws.map wD), .list [], .lst (SqL.of (eq6 _ _ hD5)) (ws_dp (Paired.imp (fun _ _ h => wt_mono (.of eq6) h) hws5) hok), .lst (SqL.of upd_same) .nil, (ws_lay hok).shaped, by decide, _, rfl, ?_⟩
          cases hwc : ws.getLast? with
          | none =>
            have hw0 : ws = [] := List.getLast?_eq_none_iff.mp hwc
            have e0 : PyData.eqv (.list (ws.map wD)) (.list []) = true := by rw [hw0]; rfl
            rw [e0]
            exact same_line
          | some w =>
            have hwne : ws ≠ [] := fun z => by rw [z] at hwc; cases hwc
            have e0 : PyData.eqv (.list (ws.map wD)) (.list []) = false := by
              cases ws with
              | nil => exact absurd rfl hwne
              | cons w0 r => rfl
            rw [e0]
            obtain ⟨lr, hlr⟩ : ∃ lr, refs.getLast? = some lr := by
              cases e : refs.getLast? with
              | none =>
                have : refs = [] := List.getLast?_eq_none_iff.mp e
                rw [this] at hrl
                exact absurd (List.eq_nil_of_length_eq_zero hrl.symm) hwne
              | some z => exact ⟨z, rfl⟩
            have hwm : w ∈ ws := List.mem_of_getLast? hwc
            obtain ⟨w', hw', wa, rfl, hwt⟩ : ∃ w', ws.getLast? = some w' ∧ wt H5 lr w' := by
              rw [List.getLast?_eq_getElem?] at hlr
              obtain ⟨w', e1, e2⟩ := Paired.get hws5 hlr
              refine ⟨w', ?_, e2⟩
              rw [List.getLast?_eq_getElem?, ← hrl]
              exact e1
            rw [hwc] at hw'
            cases hw'
            obtain ⟨hne, hl200, _⟩ := hok w hwm
            obtain ⟨lc, hlc, _⟩ := last_some hne
            have hlca := last_at hlc
            have hlra := last_atG hlr
            have hD6 := eq6 _ _ hD5
            have hwt6 := eq6 _ _ hwt
            have hcl6 := eq6 _ _ hcl5
            have hsz2 : w.2.2.length ≤ sizeLine := sz_of (by omega)
            have hszL : (blanks n ++ body ps ++ blanks t).length ≤ sizeLine := sz_of (by omega)
            walk_at "sx"
            simp only [hD6, hcl6]
            walk_at "sx"
            simp only [hlra]
            walk_at "sx"
            simp only [hwt6]
            walk_at "sx"
            simp only [hlca, hsz2, hszL, back_codes]
            walk_at "sx"
            by_cases c1 : w.1 = Str.ofString "bad quoted"
            · rw [if_pos c1]
              by_cases c2 : lc = 92
              · rw [if_pos c2]
                have hpne : ps ≠ [] := fun z => by rw [z] at hpsl; exact hwne (List.eq_nil_of_length_eq_zero hpsl.symm)
                obtain ⟨init, q0, hq0⟩ : ∃ init q0, ps = init ++ [q0] := ⟨ps.dropLast, ps.getLast hpne, (List.dropLast_concat_getLast hpne).symm⟩
                have hq2 : q0.2 = w.2.2 := by
                  have h1 := congrArg List.getLast? hps
                  rw [List.getLast?_map, List.getLast?_map, hwc, hq0, List.getLast?_concat] at h1
                  exact Option.some.inj h1
                have hpla : ((place n ps).map fun x : Nat => V.int ((x : Int) + 1)).getLast? = some (.int (((n + (body init).length + q0.1 : Nat) : Int) + 1)) := by
                  rw [hq0, place_snoc, List.map_append]
                  exact List.getLast?_concat
                have hpl3 := place_last (n := n) (init := init) (q := q0) (t := t)
                rw [← hq0, hq2] at hpl3
                have hb0 : (body init).length + q0.1 ≤ (body ps).length := by
                  rw [hq0, body_snoc, List.length_append, List.length_append, blanks_len]
                  omega
                refine ⟨_, last_atG hpla, _, rfl, ?_⟩
                have e1 : (((n + (body init).length + q0.1 : Nat) : Int) + 1 - 1) = ((n + (body init).length + q0.1 : Nat) : Int) := by omega
                have e2 : n + (body init).length + q0.1 ≤ (blanks n ++ body ps ++ blanks t).length := by
                  rw [List.length_append, List.length_append, blanks_len, blanks_len]
                  omega
                rw [e1, HT.sIx_nat, Nat.min_eq_left e2, Nat.sub_zero, List.drop_zero, hpl3]
                have hlx0 := lex_line (n := n) (t := 0) hps hsp hit
                rw [show blanks 0 = [] from rfl, List.append_nil] at hlx0
                refine ⟨?_, _, hlx0, ?_, eq6 _ _ hF5, hP5.ex eq6, Paired.imp (fun _ _ h => tok_ex eq6 h) hdr, rfl⟩
                · rw [List.length_take, Nat.min_eq_left e2]
                  exact sz_of (by omega)
                · rw [List.length_append, blanks_len]
                  omega
              · rw [if_neg c2]
                exact same_line
            · rw [if_neg c1]
              exact same_line
        · rintro σ H6 ⟨line, hlx, hll, hF6, hP6, hd6, rfl⟩
          walk_at "sx"
          have hdl := due_len (place n ps) ws
          have hfl := due_flat (is := place n ps) hok
          refine ⟨line, _, rfl, by omega, by omega, hlx, fun tf trefs H7 e7 htf htk => ?_⟩
          have htn : tyN H7 (.ref tf) = "tuple" := by rw [tyN_ref, htf]; rfl
          refine ⟨fun z => ?_, ?_⟩
          · have z : tyN H7 (.ref tf) = "?" := z
            rw [htn] at z
            exact absurd z (by decide)
          · show if Lay.isB (tyN H7 (.ref tf)) "tuple" = false then _ else _
            rw [if_neg (show ¬ Lay.isB (tyN H7 (.ref tf)) "tuple" = false by rw [htn]; decide)]
            refine ⟨tf, rfl, _, htf, fun L hL => ?_⟩
            have eL : Ex H7 (upd H7 L (.lst trefs)) := Ex.new hL
            have eL6 : Ex H6 (upd H7 L (.lst trefs)) := e7.trans eL
            have hlay := toks_lay (ts := due (place n ps) ws) hfl
            refine ⟨.list ((due (place n ps) ws).map tokD), .list ((due (place n ps) ws).map tokD), .lst (SqL.of upd_same) (toks_dp (Paired.imp (fun _ _ h => tok_ex eL h) htk) fun q hq => (hfl q hq).1),
              .lst (SqL.of (eL6 _ _ hF6)) (toks_dp (Paired.imp (fun _ _ h => tok_ex eL6 h) hd6) fun q hq => (hfl q hq).1), hlay.shaped, hlay.shaped, _, rfl, ?_⟩
            rw [hlay.eqv]
            refine ⟨p, l, _, 30, rfl, by decide, by decide, hP6.ex eL6, by decide, fun z H8 hz hs d8 => ?_⟩
            have hql := quoted_len z
            refine ⟨z, rfl, by omega, z, rfl, by omega, ?_⟩
            walk_at "sx"
            refine ⟨z, rfl, by omega, ?_⟩
            have hlex1 : Lexes (quoted z) (runEnd (quoted z) 0 isB) [(Str.ofString "quoted", .str (S z), 0)] := by
              have hR : Right "quoted" (.str (S z)) (quoted z) := .quo (by omega) hs
              have h := lex_line (n := 0) (t := 0) (ps := [(0, quoted z)]) (ws := [(Str.ofString "quoted", V.str (S z), quoted z)]) rfl trivial ⟨.inl hR, trivial⟩
              have e1 : blanks 0 ++ body [(0, quoted z)] ++ blanks 0 = quoted z := by
                show [] ++ (([] ++ quoted z) ++ []) ++ [] = _
                simp
              rw [e1] at h
              have e2 : due (place 0 [(0, quoted z)]) [(Str.ofString "quoted", V.str (S z), quoted z)] = [(Str.ofString "quoted", V.str (S z), 0)] := by
                show (if badK (Str.ofString "quoted") = true then _ else _) = _
                rw [if_neg (by rw [(right_ok hR).1]; decide)]
                rfl
              rw [e2] at h
              exact h
            refine ⟨quoted z, _, rfl, by omega, by show 1 ≤ 50000; decide, hlex1, fun t2 refs3 H9 e9 ht9 htk9 => ?_⟩
            intro q1 hq1 q2 hq2
            have n12 : q1 ≠ q2 := fun z => by rw [← z, upd_same] at hq2; cases hq2
            have e12 : Ex H9 (upd (upd H9 q1 (.tup [.str (Str.ofString "quoted"), .str (S z), .int 1])) q2 (.tup [.ref q1])) := (Ex.new hq1).trans (Ex.new hq2)
            have hflz : flat2 (.str (S z)) := .inr ⟨z, rfl, fun c hc => sgn_lt (hs c hc)⟩
            have hl1 : LayD 2 (.tuple [tokD (Str.ofString "quoted", .str (S z), 0)]) := lay_tuple (n := 1) fun d hd => by
              rw [List.mem_singleton.mp hd]
              exact tokD_lay hflz (by show PyData.strOk (Str.ofString "quoted") = true; decide +kernel)
            have hq1' : (upd (upd H9 q1 (.tup [.str (Str.ofString "quoted"), .str (S z), .int 1])) q2 (.tup [.ref q1])) q1 = some (.tup [.str (Str.ofString "quoted"), .str (S z), .int 1]) := by rw [upd_ne n12, upd_same]
            refine ⟨.tuple [tokD (Str.ofString "quoted", .str (S z), 0)], .tuple [tokD (Str.ofString "quoted", .str (S z), 0)], .tup (SqT.of (e12 _ _ ht9)) ?_, .tup (SqT.of upd_same) (.cons (.tup (SqT.of hq1') (.cons (.str _) (.cons (.str _) (.cons (.int _) .nil)))) .nil), hl1.shaped, hl1.shaped, ?_⟩
            · cases htk9 with
              | cons h1 h2 =>
                cases h2
                exact .cons (tok_dp (tok_ex e12 h1) hflz) .nil
            · rw [hl1.eqv]
              exact k _
end
end K33

open PySem PySem.W PySem.Calls PyProof.Rows
set_option maxRecDepth 100000 in
set_option maxHeartbeats 0 in
theorem PySem.Challenge.cw_textworkshop_k33_words_of_lines_holds : PySem.Challenge.rw_textworkshop_k33_words_of_lines.Holds := by
  w_on; o_law
  refine HandSHeadRun.head_any (r := OpenLaw.row PySem.Challenge.rw_textworkshop_k33_words_of_lines) (q := view (OpenLaw.row PySem.Challenge.rw_textworkshop_k33_words_of_lines).prog [27]) (H := K33.hk) (ob := K33.ob) (M := 3000) (loose := K33.names) (d := HandSHeadRun.topDef (OpenLaw.row PySem.Challenge.rw_textworkshop_k33_words_of_lines).prog 27) (kwd := []) K33.ob_eq
    (by kernel_rfl) (fun s => by kernel_rfl) K33.run (by kernel_rfl) (by kernel_rfl) (by kernel_rfl) (by rfl) (by first | assumption | decide +kernel) (by decide +kernel) ⟨rfl, rfl, rfl, rfl, rfl, by decide +kernel⟩ ?hw ?hc
  case hw => w_witness2
  case hc =>
    refine Lay.law_walk (l := PySem.Challenge.rw_textworkshop_k33_words_of_lines) (x := "_law_script") (k := 20) rfl (by kernel_rfl) ⟨rfl, by decide, by decide⟩ fun w mg h Y G => ?_
    obtain ⟨K, KX, c⟩ := Y
    have e : (HandSHeadRun.topDef (OpenLaw.row PySem.Challenge.rw_textworkshop_k33_words_of_lines).prog 27).name = ("law" : PySem.Str) := by kernel_rfl
    rw [e]
    exact ⟨K, KX, fun base _ _ => K33.law_ok (K33.txt_of KX G c)⟩
#print axioms PySem.Challenge.cw_textworkshop_k33_words_of_lines_holds
