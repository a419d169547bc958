import PyProof.Rows.All
import Wide.All
import OpenK.AllK
import Wide.FinOn
import KE.KExcSuper
import KE.KStateDown
import HandS.ForMost
import HandS.ForExc
import HandS.Defaults
import HandS.HeadHook4
import HandS.HeadWalk
import HandS.Head2
import PySem.Challenge.RW_keptlamps_k60_whole_parities_beside_a_kn
import PyProof.ReprRoads
import HandS.Star
import HandS.TupAny
import HandS.TupMul
import HandS.TupSets
import HandS.Zip
import HandS.Conv
import HandS.IsInst
import HandS.Style
import HandS.Walk
import HandS.Flow
import HandS.ExcInit
import HandS.ExcSuper
import HandS.ExcIs
import HandS.ExcField
import HandS.ExcValue
import HandS.Lambda
import PyProof.ListMulRoad
import PyProof.FactsAll.tuple_2
import PyProof.ReprLen
import HandS.Evl
import HandS.Rev
import HandS.WideBits
set_option Elab.async false
set_option linter.all false
set_option maxRecDepth 100000
set_option maxHeartbeats 2000000
namespace K60
open PySem PySem.Spec PyProof.Rows L2
abbrev PR : Program := PySem.Challenge.pw_keptlamps_k60_whole_parities_beside_a_kn
def top (i : Nat) : Stmt := PR.main.body.getD i (.Pass ⟨0, 0, 0, 0⟩)
abbrev sInit : Stmt := inClass (top 2) 0
abbrev sIsInt : Stmt := top 4
abbrev sWithin : Stmt := top 5
abbrev sIsList : Stmt := top 6
abbrev sNeedNum : Stmt := top 7
abbrev sOddIn : Stmt := top 10
abbrev sGate : Stmt := top 11
abbrev sNeedBits : Stmt := top 12
abbrev sNeedBurns : Stmt := top 14
abbrev sMixedIn : Stmt := top 15
abbrev sFreeIn : Stmt := top 16
abbrev sMade : Stmt := top 17
abbrev sChoices : Stmt := top 18
abbrev sKnown : Stmt := top 19
abbrev sFreeCh : Stmt := top 20
abbrev sLantern : Stmt := top 22
abbrev sFlame : Stmt := top 23
abbrev sPick : Stmt := top 24
abbrev sIsOne : Stmt := top 25
abbrev sHeard : Stmt := top 26
abbrev sMixed : Stmt := top 27
abbrev sBits : Stmt := top 28
abbrev sCrossing : Stmt := top 29
abbrev sChRight : Stmt := top 30
abbrev sRefused : Stmt := top 31
abbrev sLaw : Stmt := top 32
end K60
set_option maxHeartbeats 0
namespace K60
open PySem PySem.Spec PyProof.Rows L2
def mkD (x : Str) (st : Stmt) : He.DefD := ⟨(x, none), x, x, defArgs st, defBody st, defScope st, [], []⟩
def dIsInt := mkD "is_integer" sIsInt
def dWithin := mkD "is_within" sWithin
def dIsList := mkD "is_list" sIsList
def dNeedNum := mkD "need_number" sNeedNum
def dOddIn := mkD "is_odd_in" sOddIn
def dGate := mkD "gate_bits" sGate
def dNeedBits := mkD "need_bits" sNeedBits
def dNeedBurns := mkD "need_burns" sNeedBurns
def dMixedIn := mkD "mixed_in" sMixedIn
def dFreeIn := mkD "free_in" sFreeIn
def dMade := mkD "made_by_one" sMade
def dChoices := mkD "choices_in" sChoices
def dKnown := mkD "known_parities" sKnown
def dFreeCh := mkD "free_choices" sFreeCh
def dLantern := mkD "_law_lantern" sLantern
def dFlame := mkD "_law_flame_by" sFlame
def dPick := mkD "_law_pick" sPick
def dIsOne := mkD "_law_is_one" sIsOne
def dHeard := mkD "_law_heard" sHeard
def dMixed := mkD "_law_mixed" sMixed
def dBits := mkD "_law_bits" sBits
def dCrossing := mkD "_law_crossing" sCrossing
def dChRight := mkD "_law_choices_right" sChRight
def dRefused := mkD "_law_refused_right" sRefused
def dLaw := mkD "law" sLaw
def fn : List He.DefD := [dIsInt, dWithin, dIsList, dNeedNum, dOddIn, dGate, dNeedBits, dNeedBurns, dMixedIn, dFreeIn, dMade, dChoices, dKnown, dFreeCh, dLantern, dFlame, dPick, dIsOne, dHeard, dMixed, dBits, dCrossing, dChRight, dRefused, dLaw]
def fa1 : List He.Fa := [.glo "LampError", .glo "BadNumber", .glo "is_integer", .glo "is_within", .glo "is_list", .glo "need_number", .int "MOST_BITS" 59, .glo "is_odd_in", .glo "gate_bits", .glo "need_bits", .glo "need_burns", .glo "mixed_in", .glo "free_in", .glo "made_by_one", .glo "choices_in", .glo "known_parities", .glo "free_choices"]
def fa2 : List He.Fa := [.glo "_law_lantern", .glo "_law_flame_by", .glo "_law_pick", .glo "_law_is_one", .glo "_law_heard", .glo "_law_mixed", .glo "_law_bits", .glo "_law_crossing", .glo "_law_choices_right", .glo "_law_refused_right", .glo "law"]
def fa3 : List He.Fa := [.free "super", .free "isinstance", .free "int", .free "bool", .free "list", .free "tuple", .free "len", .free "all", .free "zip", .free "range", .free "min", .free "sorted", .free "abs", .free "repr", .free "ValueError"]
def fa : List He.Fa := fa1 ++ (fa2 ++ fa3)
abbrev R : PySem.W.OpenRow := PySem.W.OpenLaw.row PySem.Challenge.rw_keptlamps_k60_whole_parities_beside_a_kn
def loose : List Str := ["LampError", "BadNumber", "is_integer", "is_within", "is_list", "need_number", "MOST_BITS", "is_odd_in", "gate_bits", "need_bits", "need_burns", "mixed_in", "free_in", "made_by_one", "choices_in", "known_parities", "free_choices", "_law_lantern", "_law_flame_by", "_law_pick", "_law_is_one", "_law_heard", "_law_mixed", "_law_bits", "_law_crossing", "_law_choices_right", "_law_refused_right"]
end K60
set_option maxHeartbeats 2000000
namespace K60
open PySem PySem.Spec PyProof.Rows L2
/-! ### f(k = v, ..), no positional argument -/
section
variable {X : Cx} {CX : CXT} {k : Nat} {f : Addr} {fd : FuncData} {ps ks : List Str} {sp : Sp} {E : XK} {x : Str} {p pos : Pos} {kws : List Keyword} {tk : TA} {g : List Value → List Value → List Value} {gV : List V → List V → List V}
def tKw (sp : Sp) (gV : List V → List V → List V) (E : XK) (tk : TA) : TE := fun σ H Q => tk σ H fun zs H2 => sp (gV [] zs) H2 Q E
theorem pe_kw (F : FnOk X.prog X.w X.K X.mg X.base CX k f fd ps sp) (hr : Room k X.A) (hg : Gl X x) (hm : X.mg x = some (.ref f)) (hk : PySem.W.keepIn X.K (.ref f) = true) (hb : KBinds X.K fd ps ks g gV) (hx : Passes CX X E)
    (hkw : PK X kws tk) (hall : (backToKw pos (keywordEach kws X.env)).all (·.1.isSome) = true := by rfl) (hks : (backToKw pos (keywordEach kws X.env)).filterMap (·.1) = ks := by rfl)
    (hdb : (x == ("__debug__" : Str)) = false := by decide)
    (hpl : ((backTo pos (starEach [] X.env)).any (·.1) || (backToKw pos (keywordEach kws X.env)).any (·.1.isNone)) = false := by rfl) :
    PE X (.Call (.Name x p) [] kws pos) (tKw sp gV E tk) := by
  refine ⟨fun pins s σ H Q I h => ?_⟩
  refine wpAny_Call_Name_kw (ld_glob I hg hm ?_ hdb)
  refine PySem.W.callWith_KW0 (h₀ := X.base) I.ok.mod.kin hk hall (thn (hkw.run pos pins s σ H _ I h) fun ws s2 ⟨zs, H2, I2, rz, q2⟩ => ⟨I2.kIn, ?_⟩) hpl
  rw [hks]
  exact run_fnk (us := []) (vs := []) F hr hb hx I2 .nil rz q2
end
/-! ### repr of data -/
section
variable {X : Cx}
def rRepr (K : PySem.W.Frag) (A : Around) : List V → Hp → VK → Prop := fun xs H Q => ∃ x d, xs = [x] ∧ (∃ a, x = .ref a) ∧ Dp K H x d ∧ d.showable = true ∧ d.hasDict = false ∧ A.units + (d.depth + 1) < cLine ∧ d.shown.length ≤ sizeLine ∧ Q (.str d.shown) H
theorem call_reprD (hg : X.A.guards = some []) : CallR X (.builtin "repr") (rRepr X.K X.A) := by
  intro pins s σ H xs us Q I r h
  obtain ⟨x, d, rfl, ⟨a, rfl⟩, hd, hs, hn, hu, hz, q⟩ := h
  obtain ⟨u, rfl, ru⟩ := vals1 r
  obtain rfl : u = Value.ref a := ru
  obtain ⟨as, rd⟩ := Dp.reads I d _ _ hd rfl
  refine repr_of_reads' rd hs (fun e => by rw [hn] at e; cases e) hg hu (fun _ _ e => e) (fun h' u tk k => ?_) hz
  exact ⟨.str d.shown, H, I.kept k, ⟨_, rfl⟩, q⟩
end
/-! ### defs whose around is told: nothing is being shown -/
structure FnG (P : Program) (w : World) (K : PySem.W.Frag) (mg : Str → Option Value) (base : Heap) (CX : CXT) (k : Nat) (f : Addr) (fd : FuncData) (ps : List Str) (sp : Sp) : Prop where
  len : ∀ vs H Q E, sp vs H Q E → vs.length = ps.length
  run : ∀ (A : Around) (outer : List Env) (s : Shared) (H : Hp) (args : Args) (us : List Value) (vs : List V) (Q : VK) (E : XK), Room k A → A.guards = some [] → Env0 P w K mg base A outer s H → BindsTo s fd args (ps.zip us) → Vals vs us → sp vs H Q E →
    codeAny (model P w) A (.call (.ref f) args) (CR CX outer P w H s Q E) s
/-- an Around for one run only -/
theorem FnG.of {P : Program} {w : World} {K : PySem.W.Frag} {mg : Str → Option Value} {base : Heap} {CX : CXT} {k : Nat} {f : Addr} {x qual : Str} {params : Arguments} {body : List Stmt} {scope : Scope} {fd : FuncData} {N ps : List Str} {sp : Sp}
    (F : FunD K x qual params body scope [] [] f fd) (S : FnScope N ps scope) (len : ∀ vs H Q E, sp vs H Q E → vs.length = ps.length)
    (hbody : ∀ (cdv : Value) (A : Around) (outer : List Env) (s : Shared) (H : Hp) (vs : List V) (Q : VK) (E : XK), Room k (A.deeper (envOfC qual scope s.heap.objs.size f cdv)) → A.guards = some [] → sp vs H Q E →
      ∃ t, PSs (cxOf CX P w K mg base N qual scope f cdv A outer s H E) body t ∧ t { nx := fun _ H' => Q .non H', rt := Q } (start N vs) H) : FnG P w K mg base CX (k + 1) f fd ps sp := by
  refine ⟨len, fun A outer s H args us vs Q E hr hA he hb hv hsp => ?_⟩
  obtain ⟨oc, od, dV, kV, doc, pm, an, cdv, ct, osl, rfl, lk, hcd, hD, _⟩ := F.ex
  exact LamX.run_ofS lk hcd S hr he hb hv (len _ _ _ _ hsp) fun hr' => hbody cdv A outer s H vs Q E hr' hA hsp
/-- such a def called from a body whose around is told -/
theorem pe_callG {X : Cx} {CX : CXT} {k : Nat} {f : Addr} {fd : FuncData} {ps : List Str} {sp : Sp} {E : XK} {x : Str} {p pos : Pos} {e : Expr} {es : List Expr} {t : TA}
    (F : FnG X.prog X.w X.K X.mg X.base CX k f fd ps sp) (hA : X.A.guards = some []) (hr : Room k X.A) (hg : Gl X x) (hm : X.mg x = some (.ref f)) (hk : PySem.W.keepIn X.K (.ref f) = true) (hb : L2.Binds X.K fd ps []) (hx : Passes CX X E)
    (ha : PA X (e :: es) t) (hdb : (x == ("__debug__" : Str)) = false := by decide) (he : starEach (e :: es) X.env = (false, eval e X.env) :: starEach es X.env := by rfl) (hpl : (backTo pos (starEach es X.env)).any (·.1) = false := by rfl) :
    PE X (.Call (.Name x p) (e :: es) [] pos) (tCall sp [] E t) := by
  refine ⟨fun pins s σ H Q I h => ?_⟩
  refine wpAny_Call_Name_kw (ld_glob I hg hm ?_ hdb)
  refine PySem.W.callWith_K (h₀ := X.base) I.ok.mod.kin hk (thn (ha.run pos pins s σ H _ I h) fun us s1 ⟨vs, H1, I1, r, q⟩ => ⟨I1.kIn, ?_⟩) he hpl
  have q : sp (vs ++ []) H1 Q E := q
  rw [List.append_nil] at q
  have hl : (us ++ ([] : List Value)).length = ps.length := by rw [List.append_nil, ← r.length]; exact F.len _ _ _ _ q
  have hb2 := hb s1 us I1.kIn hl
  rw [List.append_nil] at hb2
  refine wpAny_call (codeAny_mono (F.run X.A X.stack s1 H1 ⟨us, []⟩ us vs Q E hr hA I1.env0 hb2 r q) fun r s' hq => ?_)
  cases r with
  | error e => exact hx pins σ H1 s1 e s' I1 hq
  | ok fl =>
    cases fl with
    | ret u => exact I1.after hq
    | next => exact False.elim hq
    | brk => exact False.elim hq
    | cont => exact False.elim hq
end K60
set_option maxHeartbeats 4000000
namespace K60
open PySem PySem.Spec PyProof.Rows L2
/-! ### (x,) * 0, (x,) * 1 -/
open PySem.AutoSeq1 (wpAny_loadPart')
theorem tuple_mul1 (l : Addr) (items : Array Value) (n : Nat) (dd : Option Addr) (sl : Array (Option Value)) (u : Tok) :
    Meets (Builtin.«tuple.__mul__» ⟨[.ref l, .int 1 u], []⟩) (fun _ R s => s.heap.get? l = some { cls := .type "tuple", dict := dd, data := .seq items n, slots := sl } ∧ R (.ok (.ret (Value.ref l))) s) :=
  .of_wp fun prog w A R s h => by
    obtain ⟨hp, g, d, tk, os⟩ := s
    obtain ⟨hl, h⟩ := h
    have f1 := AutoSeq1.idx_int
    wp_walk using wpAny_loadPart' hl
    exact ⟨_, rfl, h⟩
theorem tuple_mul0 (l : Addr) (items : Array Value) (n : Nat) (dd : Option Addr) (sl : Array (Option Value)) (u : Tok) (c1 : items.isEmpty = false) :
    Meets (Builtin.«tuple.__mul__» ⟨[.ref l, .int 0 u], []⟩) (fun _ R s => s.heap.get? l = some { cls := .type "tuple", dict := dd, data := .seq items n, slots := sl } ∧
      R (.ok (.ret (Value.ref s.heap.objs.size))) { s with heap := s.heap.push { cls := Value.type "tuple", data := Data.seq #[] }, toks := s.toks }) :=
  .of_wp fun prog w A R s h => by
    obtain ⟨hp, g, d, tk, os⟩ := s
    obtain ⟨hl, h⟩ := h
    have f1 := AutoSeq1.idx_int
    wp_walk using wpAny_loadPart' hl
    exact ⟨_, rfl, h⟩
/-- t * k, 0 <= k <= 1000, t one item or more: some tuple of it (the same one, a new one) -/
def rRepZ (K : PySem.W.Frag) : R2 := fun x y H Q => ∃ l k xs, x = .ref l ∧ y = .int k ∧ SqT K H l xs ∧ xs ≠ [] ∧ 0 ≤ k ∧ k ≤ 1000 ∧ xs.length ≤ 1000 ∧ ∀ q H', Same H H' → SqT K H' q (List.replicate k.toNat xs).flatten → Q (.ref q) H'
section
variable {X : Cx}
theorem same_upd {H : Hp} {p : Addr} {o : HO} (h : H p = none) : Same H (upd H p o) := fun b u e => by rw [upd_ne (ne_of_none e h)]; exact e
theorem op_repZ : OpR X (binaryOp .Mult) (rRepZ X.K) := by
  intro pins s σ H x y v u Q I rx ry h
  obtain ⟨l, k, xs, rfl, rfl, hT, hne, h1, h2, hz, q⟩ := h
  by_cases hk : 2 ≤ k
  · exact op_repT pins s σ H _ _ v u Q I rx ry ⟨l, k, xs, rfl, rfl, hT, hne, hk, h2, hz, fun p hp => q p _ (same_upd hp) (SqT.of upd_same)⟩
  · cases rx
    obtain ⟨t, rfl⟩ := ry
    obtain ⟨its, r, ⟨⟨cls, dd, data, sl⟩, ho, hc, n, hd⟩, hs⟩ := I.tuple hT
    simp only at hc hd
    subst hc hd
    have hle : its.length = xs.length := r.length.symm
    have hi : its.toArray.isEmpty = false := by
      cases its with
      | nil => exact absurd (List.eq_nil_of_length_eq_zero hle.symm) hne
      | cons a b => rfl
    by_cases hk1 : k = 1
    · subst hk1
      refine wpAny_binaryOp_repeat_ref (T := "tuple") (U := "int") (by decide) ⟨_, ho, rfl⟩ (fun s' => typeIs_int s' 1 t) noFill_tuple_mul F.fills_int_mul F.slot_int_rmul repeat_tuple F.slot_int_index.lookup
        (call_meets F.slot_int_rmul (typeIs_int s 1 t) F.entry_int_rmul (F.args_int_rmul_2 _ _) (int_rmul_tuple 1 t l its.toArray n dd sl)
          ⟨ho, rfl, ⟨_, ho, rfl⟩, call_meets F.slot_tuple_mul ⟨_, ho, rfl⟩ F.entry_tuple_mul (F.args_tuple_mul_2 _ _) (tuple_mul1 l its.toArray n dd sl t) ⟨ho, ?_⟩⟩)
      exact ⟨.ref l, H, I, rfl, q l H (Same.refl H) (by simpa using hT)⟩
    · have hk0 : k = 0 := by omega
      subst hk0
      refine wpAny_binaryOp_repeat_ref (T := "tuple") (U := "int") (by decide) ⟨_, ho, rfl⟩ (fun s' => typeIs_int s' 0 t) noFill_tuple_mul F.fills_int_mul F.slot_int_rmul repeat_tuple F.slot_int_index.lookup
        (call_meets F.slot_int_rmul (typeIs_int s 0 t) F.entry_int_rmul (F.args_int_rmul_2 _ _) (int_rmul_tuple 0 t l its.toArray n dd sl)
          ⟨ho, rfl, ⟨_, ho, rfl⟩, call_meets F.slot_tuple_mul ⟨_, ho, rfl⟩ F.entry_tuple_mul (F.args_tuple_mul_2 _ _) (tuple_mul0 l its.toArray n dd sl t hi) ⟨ho, ?_⟩⟩)
      have hn := I.hok.fresh (Nat.le_refl _)
      refine ⟨.ref s.heap.objs.size, _, I.laid (t' := s.toks) (o := .tup []) (fun b ob q => Heap.get?_push_of_some _ q) (Nat.le_refl _) ⟨Nat.zero_le _, [], .nil, IsTup.new _ _⟩, rfl, q _ _ (same_upd hn) (SqT.of upd_same)⟩
end
end K60
set_option maxHeartbeats 4000000
namespace K60
open PySem PySem.Spec PyProof.Rows L2
/-! ### sorted of a list, a tuple of tuples of bits -/
def leC (x y : List Int) : Bool := decide (TS.code 2 x ≤ TS.code 2 y)
def srt (l : List (List Int)) : List (List Int) := l.mergeSort leC
def Bits (ns : List Int) : Prop := ∀ x ∈ ns, x = 0 ∨ x = 1
theorem Bits.bd {ns : List Int} (h : Bits ns) : TS.Bd 2 ns := fun m hm => by rcases h m hm with e | e <;> omega
theorem code_bd : ∀ {x : List Int}, Bits x → 0 ≤ TS.code 2 x ∧ TS.code 2 x < 2 ^ x.length
  | [], _ => by decide
  | d :: r, h => by
    obtain ⟨a, b⟩ := code_bd (x := r) fun m hm => h m (List.mem_cons_of_mem _ hm)
    have e : TS.code 2 (d :: r) = d * 2 ^ r.length + TS.code 2 r := rfl
    rw [e, List.length_cons, Int.pow_succ]
    have p : (0 : Int) < 2 ^ r.length := Int.pow_pos (by decide)
    rcases h d (List.mem_cons_self ..) with q | q <;> subst q <;> omega
theorem code_inj : ∀ {x y : List Int}, Bits x → Bits y → x.length = y.length → TS.code 2 x = TS.code 2 y → x = y
  | [], [], _, _, _, _ => rfl
  | [], _ :: _, _, _, h, _ => by simp at h
  | _ :: _, [], _, _, h, _ => by simp at h
  | d :: r, e :: t, hx, hy, hl, hc => by
    have hr : Bits r := fun m hm => hx m (List.mem_cons_of_mem _ hm)
    have ht : Bits t := fun m hm => hy m (List.mem_cons_of_mem _ hm)
    have hl' : r.length = t.length := by simpa using hl
    obtain ⟨a1, a2⟩ := code_bd hr
    obtain ⟨b1, b2⟩ := code_bd ht
    have e1 : TS.code 2 (d :: r) = d * 2 ^ r.length + TS.code 2 r := rfl
    have e2 : TS.code 2 (e :: t) = e * 2 ^ t.length + TS.code 2 t := rfl
    rw [e1, e2, ← hl'] at hc
    rw [← hl'] at b2
    have hd := hx d (List.mem_cons_self ..)
    have he := hy e (List.mem_cons_self ..)
    have hde : d = e := by
      rcases hd with rfl | rfl <;> rcases he with rfl | rfl <;> omega
    subst hde
    rw [code_inj hr ht hl' (by omega)]
theorem leC_trans (a b c : List Int) (h : leC a b = true) (h' : leC b c = true) : leC a c = true := by
  unfold leC at *
  simp only [decide_eq_true_eq] at *
  omega
theorem leC_total (a b : List Int) : (leC a b || leC b a) = true := by
  unfold leC
  simp only [Bool.or_eq_true, decide_eq_true_eq]
  omega
/-- a permutation that rises is the sorted list -/
theorem srt_one {d : Nat} {bs out : List (List Int)} (hb : ∀ x ∈ bs, Bits x ∧ x.length = d) (hp : out.Perm bs) (hs : out.Pairwise (fun x y => TS.code 2 x ≤ TS.code 2 y)) : out = srt bs := by
  have h2 : (srt bs).Pairwise (fun x y => TS.code 2 x ≤ TS.code 2 y) := by
    have := List.pairwise_mergeSort (le := leC) leC_trans leC_total bs
    exact this.imp fun h => by unfold leC at h; simpa using h
  have h3 : (srt bs).Perm bs := List.mergeSort_perm bs leC
  refine (hp.trans h3.symm).eq_of_pairwise (le := fun x y => TS.code 2 x ≤ TS.code 2 y) (fun a b ha hb' h h' => ?_) hs h2
  have m1 := hb a (hp.mem_iff.mp ha)
  have m2 := hb b (h3.mem_iff.mp hb')
  exact code_inj m1.1 m2.1 (m1.2.trans m2.2.symm) (by omega)
end K60
set_option maxHeartbeats 4000000
namespace K60
open PySem PySem.Spec PyProof.Rows L2
section
variable {prog : Program} {w : World} {A : Around} {E : Value → Shared → Prop} {s : Shared}
theorem collect_tup {l : Addr} {vs : List Value} {Q : List Value → Shared → Prop} (hl : IsTup s.heap l vs.toArray)
    (h : Q vs { s with heap := (s.heap.push (seqObj "list" #[] 0)).update s.heap.objs.size (Obj.mapSeq (· ++ vs.toArray)) }) (hsz : vs.length ≤ sizeLine) :
    wpAny (model prog w) A (collect (.ref l)) Q E s := by
  obtain ⟨o, ho, hc, n, hd⟩ := id hl
  unfold collect
  refine wpAny_bind (wpAny_runValue (codeAny_builtin entry_proto_collect' ?_))
  show wpAny _ _ (do again (.builtin "list.__iadd__" ⟨[← newList [], .ref l], []⟩)) _ _ s
  refine wpAny_bind (wpAny_newList (wpAny_pure ⟨Code.quiet_builtin _ (by decide +kernel), codeAny_builtin entry_list_iadd' ?_⟩))
  show wpAny _ _ (Builtin.List.listExtendWith (.ref s.heap.objs.size) (.ref l) (.ref s.heap.objs.size)) _ _ { s with heap := s.heap.push (seqObj "list" #[] 0) }
  unfold Builtin.List.listExtendWith
  have ho' : (s.heap.push (seqObj "list" #[] 0)).get? l = some o := Heap.get?_push_of_some _ ho
  refine wpAny_bind (wpAny_typeOf (T := "tuple") ⟨o, ho', hc⟩ ?_)
  have ht : (Value.type "tuple" == Value.type "tuple") = true := by rfl
  rw [if_pos (by rw [ht]; simp)]
  refine wpAny_bind (listItems_at ho' hd ?_)
  refine wpAny_bind (listItems_at (xs := #[]) (n := 0) (Heap.get?_push_size _ rfl) rfl ?_)
  rw [if_neg (by simp)]
  refine wpAny_bind (listUpdate_at (xs := #[]) (n := 0) (Heap.get?_push_size _ rfl) rfl ?_ (Nat.zero_le _) (by show (#[] ++ vs.toArray).size ≤ sizeLine + 1; simp only [Array.size_append, List.size_toArray, List.length_nil]; omega))
  refine wpAny_pure ?_
  show wpAny (model prog w) A (do
      let o ← load s.heap.objs.size
      match o.data with
      | .seq xs _ => pure xs.toList
      | _ => unsupported "internal:collect") Q E { s with heap := (s.heap.push (seqObj "list" #[] 0)).update s.heap.objs.size (Obj.mapSeq (· ++ vs.toArray)) }
  refine wpAny_bind (wpAny_load (get?_update_seq (Heap.get?_push_size _ rfl) _) ?_)
  show wpAny _ _ (pure ((#[] : Array Value) ++ vs.toArray).toList) Q E _
  rw [show ((#[] : Array Value) ++ vs.toArray).toList = vs by simp]
  exact wpAny_pure h
/-- sorted(xs), xs a list or a tuple of fewer than 64 tuples of d bits; d may be 0 where xs has one item -/
theorem sorted_bits {l : Addr} {vs : List Value} {d : Nat} {Q : Value → Shared → Prop} (hl : s.heap.IsList l vs.toArray ∨ IsTup s.heap l vs.toArray) (h64 : vs.length < 64) (hd : 2 ≤ vs.length → 1 ≤ d) (x : TS.TupsOk s.heap d 2 vs)
    (h : ∀ out : Array Value, out.toList.Perm vs → out.toList.Pairwise (fun u v => TS.code 2 (TS.intsOf s.heap u) ≤ TS.code 2 (TS.intsOf s.heap v)) → Q (.ref (s.heap.objs.size + 1)) { s with heap := sortedAll s.heap vs out }) :
    wpAny (model prog w) A (call (.builtin "sorted") [.ref l]) Q E s := by
  have line : vs.length ≤ sizeLine := by rw [sizeLine_eq]; omega
  refine Calls.call_function_entry kind_sorted plain_sorted entry_sorted (args_sorted1 _) ?_
  unfold Builtin.«sorted»
  refine wpAny_bind (m := checkCount "sorted" 1 1 _) (wpAny_pure ?_)
  have go : ∀ {Q' : List Value → Shared → Prop}, Q' vs { s with heap := (s.heap.push (seqObj "list" #[] 0)).update s.heap.objs.size (Obj.mapSeq (· ++ vs.toArray)) } → wpAny (model prog w) A.in1 (collect (.ref l)) Q' (fun e s' => E e s') s := fun {Q'} q => by
    rcases hl with hl | hl
    · exact collect_list hl q line
    · exact collect_tup hl q line
  refine wpAny_bind (go ?_)
  refine wpAny_bind (wpAny_newList ?_ line)
  have hsz : ((s.heap.push (seqObj "list" #[] 0)).update s.heap.objs.size (Obj.mapSeq (· ++ vs.toArray))).objs.size = s.heap.objs.size + 1 := by
    rw [Heap.size_update, size_push']
  have hoL : (((s.heap.push (seqObj "list" #[] 0)).update s.heap.objs.size (Obj.mapSeq (· ++ vs.toArray))).push (seqObj "list" vs.toArray 0)).get? (s.heap.objs.size + 1) = some (seqObj "list" vs.toArray 0) := by
    rw [← hsz]; exact Heap.get?_push_size _ rfl
  have keep : ∀ b o, s.heap.get? b = some o → o.cls = .type "tuple" → (((s.heap.push (seqObj "list" #[] 0)).update s.heap.objs.size (Obj.mapSeq (· ++ vs.toArray))).push (seqObj "list" vs.toArray 0)).get? b = some o := fun b o q _ => by
    have hlt : b < s.heap.objs.size := Heap.lt_size q
    rw [Heap.get?_push_ne _ _ _ (by rw [hsz]; exact Nat.ne_of_lt (Nat.lt_succ_of_lt hlt)), Heap.get?_update_ne _ _ _ _ (Nat.ne_of_lt hlt), Heap.get?_push_ne _ _ _ (Nat.ne_of_lt hlt)]
    exact q
  show wpAny _ _ _ _ _ { s with heap := ((s.heap.push (seqObj "list" #[] 0)).update s.heap.objs.size (Obj.mapSeq (· ++ vs.toArray))).push (seqObj "list" vs.toArray 0) }
  rw [hsz]
  by_cases h2 : 2 ≤ vs.length
  · refine wpAny_bind (wpAny_holding (wpAny_call_entry slot_list_sort ⟨_, hoL, rfl⟩ entry_list_sort (TS.sort_tups hoL h64 (hd h2) (x.keeps keep) (fun v => TS.code 2 (TS.intsOf s.heap v)) (fun v hv ns t => ?_) fun out a1 a2 => ⟨_, rfl, ?_⟩) (args_list_sort _)))
    · obtain ⟨ns0, t0, _⟩ := x v hv
      have e : ns = ns0 := t.ints.symm.trans (t0.keeps keep).ints
      rw [e]
      show TS.code 2 (TS.intsOf s.heap v) = TS.code 2 ns0
      rw [t0.ints]
    · exact wpAny_pure ⟨_, rfl, h out a1 a2⟩
  · refine wpAny_bind (wpAny_holding (wpAny_call_entry slot_list_sort ⟨_, hoL, rfl⟩ entry_list_sort (SK.plain_sort (r := fun v => TS.code 2 (TS.intsOf s.heap v)) hoL h64 (fun h2' => absurd h2' h2) fun ps out h1 h2' h3 => ⟨_, rfl, ?_⟩) (args_list_sort _)))
    obtain ⟨p, o⟩ := TS.out_rank (r := fun v => TS.code 2 (TS.intsOf s.heap v)) h1 h2' h3
    exact wpAny_pure ⟨_, rfl, h out p o⟩
end
/-! ### .. over the layer -/
/-- xs are tuples of the bits bss -/
abbrev Tps (K : PySem.W.Frag) (H : Hp) : List V → List (List Int) → Prop := Paired (TupI K H)
theorem Tps.get {K : PySem.W.Frag} {H : Hp} : ∀ {xs : List V} {bss : List (List Int)}, Tps K H xs bss → ∀ x ∈ xs, ∃ b ∈ bss, TupI K H x b
  | _, _, .nil, _, h => absurd h (by simp)
  | _, _, .cons r t, x, h => by
    rcases List.mem_cons.mp h with e | h
    · subst e
      exact ⟨_, List.mem_cons_self .., r⟩
    · obtain ⟨b, m, q⟩ := Tps.get t x h
      exact ⟨b, List.mem_cons_of_mem _ m, q⟩
theorem Tps.length {K : PySem.W.Frag} {H : Hp} {xs : List V} {bss : List (List Int)} (t : Tps K H xs bss) : xs.length = bss.length := Paired.length t
theorem TupI.inj {X : Cx} {pins : List (Addr × Obj)} {σ : L2.St} {H : Hp} {s : Shared} (I : Inv X pins σ H s) {x : V} {a b : List Int} (h1 : TupI X.K H x a) (h2 : TupI X.K H x b) : a = b := by
  obtain ⟨t, rfl, h1⟩ := h1
  obtain ⟨t', e, h2⟩ := h2
  cases e
  have q := I.tuple_inj h1 h2
  exact (List.map_inj_right (f := V.int) fun x y e => V.int.inj e).mp q
def rSortedB (K : PySem.W.Frag) : List V → Hp → VK → Prop := fun vs H Q => ∃ (a : Addr) (xs : List V) (bss : List (List Int)) (d : Nat), vs = [V.ref a] ∧ (SqL K H a xs ∨ SqT K H a xs) ∧ Tps K H xs bss ∧ bss.length < 64 ∧ (2 ≤ bss.length → 1 ≤ d) ∧ (∀ b ∈ bss, Bits b ∧ b.length = d) ∧
  ∀ (ys : List V) (p : Addr), H p = none → Tps K H ys (srt bss) → Q (.ref p) (upd H p (.lst ys))
theorem tps_perm {K : PySem.W.Frag} {H : Hp} {f : V → List Int} : ∀ {ys : List V}, (∀ y ∈ ys, TupI K H y (f y)) → Tps K H ys (ys.map f)
  | [], _ => .nil
  | y :: ys, h => .cons (h y (List.mem_cons_self ..)) (tps_perm fun z hz => h z (List.mem_cons_of_mem _ hz))
theorem tps_map {K : PySem.W.Frag} {H : Hp} {f : V → List Int} : ∀ {xs : List V} {bss : List (List Int)}, Tps K H xs bss → (∀ x ∈ xs, ∀ b, TupI K H x b → f x = b) → xs.map f = bss
  | _, _, .nil, _ => rfl
  | x :: xs, b :: bss, .cons r t, h => by
    rw [List.map_cons, h x (List.mem_cons_self ..) b r, tps_map t fun z hz => h z (List.mem_cons_of_mem _ hz)]
theorem cr_sortedB {X : Cx} : CallR X (.builtin "sorted") (rSortedB X.K) := by
  intro pins s σ H vs us Q I r h
  obtain ⟨a, xs, bss, d, rfl, hs, ht, h64, hd, hb, q⟩ := h
  obtain ⟨its, rv, hl, hz⟩ : ∃ its, Vals xs its ∧ (s.heap.IsList a its.toArray ∨ IsTup s.heap a its.toArray) ∧ xs.length ≤ sizeLine := by
    rcases hs with hs | hs
    · obtain ⟨its, rv, hl, hz⟩ := I.list hs
      exact ⟨its, rv, .inl hl.isList, hz⟩
    · obtain ⟨its, rv, hl, hz⟩ := I.tuple hs
      exact ⟨its, rv, .inr hl, hz⟩
  rw [Vals.ref1 r]
  obtain ⟨e1, e2⟩ := bkV_refs rv fun x m => by
    obtain ⟨b, _, t, e, _⟩ := ht.get x m
    exact ⟨t, e⟩
  have hlen : its.length = bss.length := by rw [← rv.length, ht.length]
  -- the bits of an item
  have hf : ∀ x ∈ xs, ∀ b, TupI X.K H x b → TS.intsOf s.heap (match x with | .ref t => .ref t | _ => .none) = b := fun x hx b tb => by
    obtain ⟨t, rfl, ht'⟩ := tb
    exact (tupI_raw I ht').ints
  refine sorted_bits (d := d) hl (by rw [hlen]; exact h64) (by rw [hlen]; exact hd) (fun v hv => ?_) fun out h1 h2 => ?_
  · obtain ⟨t, rfl⟩ := e2 v hv
    have hm : V.ref t ∈ xs := by
      rw [e1]
      exact List.mem_map.mpr ⟨_, hv, rfl⟩
    obtain ⟨b, mb, t', e, ht'⟩ := ht.get _ hm
    cases e
    exact ⟨b, tupI_raw I ht', (hb b mb).2, (hb b mb).1.bd⟩
  · obtain ⟨ep, he'⟩ := PyProof.Rows.sortedAll_at s.heap its out
    have h3 : ∀ u ∈ out.toList, ∃ a, u = Value.ref a := fun u hu => e2 u (h1.mem_iff.mp hu)
    have hp : (out.toList.map bkV).Perm xs := by
      rw [e1]
      exact h1.map bkV
    have hl2 : (out.toList.map bkV).length ≤ sizeLine := by
      rw [hp.length_eq]
      exact hz
    refine ⟨.ref _, upd H (s.heap.objs.size + 1) (.lst (out.toList.map bkV)), I.laid (t' := s.toks) (fun _ _ => PyProof.Rows.sortedAll_old) (Nat.le_succ _) ⟨hl2, out.toList, ep, bkV_vals h3, he'⟩, rfl, q _ _ (I.hok.fresh (Nat.le_succ _)) ?_⟩
    -- what they are
    have key : ∀ y ∈ out.toList.map bkV, TupI X.K H y (TS.intsOf s.heap (match y with | .ref t => .ref t | _ => .none)) := fun y hy => by
      have hx : y ∈ xs := hp.mem_iff.mp hy
      obtain ⟨b, _, tb⟩ := ht.get y hx
      rw [hf y hx b tb]
      exact tb
    have t1 := tps_perm key
    have em := tps_map ht hf
    have pm : ((out.toList.map bkV).map fun y => TS.intsOf s.heap (match y with | .ref t => .ref t | _ => .none)).Perm bss := by
      rw [← em]
      exact hp.map _
    have so : ((out.toList.map bkV).map fun y => TS.intsOf s.heap (match y with | .ref t => .ref t | _ => .none)).Pairwise (fun x y => TS.code 2 x ≤ TS.code 2 y) := by
      rw [List.map_map, List.pairwise_map]
      refine h2.imp_of_mem fun {u v} hu hv huv => ?_
      obtain ⟨a1, rfl⟩ := h3 u hu
      obtain ⟨a2, rfl⟩ := h3 v hv
      exact huv
    rw [← srt_one (d := d) hb pm so]
    exact t1
end K60
set_option maxHeartbeats 4000000
namespace K60
open PySem PySem.W PySem.Calls PyProof.Rows PySem.HandSPX
/-! ### BadNumber: made by its own __init__, which says super().__init__('..') -/
/-- what the written part says of BadNumber, at C, and of its __init__, at fI -/
structure NumTxt (K : Frag) (mg : Str → Option Value) (C fI : Addr) : Prop where
  gC : mg "BadNumber" = some (.ref C)
  cls : ∃ nm q N bs bm sn sub ab col dd k0 k1 k2 k3 k5, K.lookup C = some (excClassObj nm q C N bs bm true sn sub ab col dd k0 k1 k2 k3 k5 "ValueError.__new__") ∧ refsVE bm = true
  sa : findIn K (.ref C) "__setattr__" = some (some (.builtin "object.__setattr__"))
  ga : findIn K (.ref C) "__getattribute__" = some (some (.builtin "BaseException.__getattribute__"))
  gg : findIn K (.ref C) "__getattr__" = some none
  noN : findIn K (.ref C) "part" = some none
  iC : findIn K (.ref C) "__init__" = some (some (.ref fI))
  tC : typeIn K (.ref fI) = some (.type "function")
  kC : keepIn K (.ref C) = true
  exC : subIn K (.ref C) (.type "BaseException") = some true
  veC : subIn K (.ref C) (.type "ValueError") = some true
  tyC : typeIn K (.ref C) = some (.type "type")
  hdC : hasDictIn K C = true
  su : ks_superIn K C C "__init__" = some (some (.builtin "ValueError.__init__"))
  opq : nsIn K cStatics "thirdparty.any" = some none
  self : mroIn K C (.ref C) = some true
  noS : mg "super" = none
  fn : ∃ (oc : Value) (od : Option Addr) (kV doc pm : Value) (an : Option Addr) (cda cc : Addr) (ct : Value) (osl : Array (Option Value)) (ccl : Value) (cdd : Option Addr) (vs : Array Value) (ccs : Array (Option Value)) (file : Str) (tf : Tok) (cl : Value) (cld : Option Addr) (csl : Array (Option Value)),
    K.lookup fI = some ⟨oc, od, .func (fnX "__init__" "BadNumber.__init__" (L2.defArgs sInit) (L2.defBody sInit) (L2.defScope sInit) [("__class__", cc)] .none kV doc pm an (.ref cda) ct), osl⟩ ∧ codeIn K (.ref cda) "BadNumber.__init__" = true ∧
    K.lookup cda = some ⟨ccl, cdd, .fields vs, ccs⟩ ∧ vs[2]? = some (.str file tf) ∧ ((PR.main.file : Str) == file) = true ∧ K.lookup cc = some ⟨cl, cld, .cell (some (.ref C)), csl⟩
theorem one_size (v : Value) : [v].length ≤ sizeLine := by
  rw [sizeLine_eq]
  exact (by decide : 1 ≤ 16777216)
/-- what __init__ leaves of a fresh exception at x -/
structure InitEnd (h h' : Heap) (x C dx : Addr) (v : Value) : Prop where
  keep : ∀ b o, b ≠ x → h.get? b = some o → h'.get? b = some o
  obj : ∃ t1 : Addr, h'.get? x = some { cls := .ref C, dict := some dx, data := .fields #[.ref t1, .none, .none, .none, .bool false, .none] }
  dbig : h.objs.size ≤ dx
  dne : dx ≠ x
  ns : h'.Ns1 dx (fun y => if y = "part" then some v else none)
/-- a made one -/
structure OwnMade (h h' : Heap) (e C d : Addr) (v : Value) : Prop where
  keep : ∀ b o, h.get? b = some o → h'.get? b = some o
  new : h.objs.size ≤ e
  obj : ∃ oe vs, h'.get? e = some oe ∧ oe.cls = .ref C ∧ oe.dict = some d ∧ oe.data = .fields vs ∧ vs[1]? = some .none
  dbig : h.objs.size ≤ d
  dne : d ≠ e
  ns : h'.Ns1 d (fun y => if y = "part" then some v else none)
section
variable {prog : Program} {w : World} {A : Around} {E : Value → Shared → Prop} {h : Heap} {g : Array GenState} {d : Drawn} {t : Nat} {os : OsState}
/-- super().__init__'s method-wrapper, called: the args are laid anew -/
theorem call_mw {nm q : Str} {C N : Addr} {bs bm : List Value} {hdct : Bool} {sn : List Str} {sub : List Value} {ab : Bool} {col : Option Bool} {dd : Option Addr} {k0 k1 k2 k3 k5 : Option Value} {u e t0 : Addr} {rest : List Value} {Q : Value → Shared → Prop}
    (hC : h.get? C = some (excClassObj nm q C N bs bm hdct sn sub ab col dd k0 k1 k2 k3 k5 "ValueError.__new__")) (he : h.get? e = some (excO C t0)) (hu : h.get? u = some (kxs_mw "ValueError.__init__" e)) (hz : rest.length ≤ sizeLine)
    (hq : ∀ h', (∀ b o, b ≠ e → h.get? b = some o → h'.get? b = some o) → h'.get? e = some (excO C h.objs.size) → Q .none ⟨h', g, d, t, os⟩) :
    wpAny (model prog w) A (call (.ref u) rest) Q E ⟨h, g, d, t, os⟩ := by
  refine wpAny_call (codeAny_of_tree ?_)
  show wpAny _ A.in1 (callAny (.ref u) ⟨rest, []⟩) _ _ _
  simp only [callAny]
  refine wpAny_bind (wpAny_load hu ?_)
  simp only [kxs_mw, show (Value.type "method-wrapper" == Value.type "method" || Value.type "method-wrapper" == Value.type "builtin_function_or_method" || Value.type "method-wrapper" == Value.type "method-wrapper") = true by decide, if_true]
  refine KFB.if_so (by decide) ?_
  refine wpAny_bind (check_bound_init F.excBase_ValueError.toExcCallFacts hC he rfl ?_)
  refine wpAny_bind (wpAny_pure (wpAny_pure ?_))
  refine ⟨plainId_quiet F.excBase_ValueError.init.plain _, codeAny_builtin F.excBase_ValueError.initEntry ?_⟩
  exact exc_init_tree (cls := .ref C) (t0 := t0) (dv := none) (c2 := .none) (c3 := .none) (b4 := .bool false) he hz fun h' k e' _ => hq h' k e'
end
section
variable {w : World} {A : Around} {E : Value → Shared → Prop} {R : Result → Shared → Prop} {s : Shared} {K : Frag} {mg : Str → Option Value} {C fI : Addr}
theorem num_init (T : NumTxt K mg C fI) {x t0 : Addr} {v : Value} (X : K.In s.heap) (hlim : s.heap.NoLimit) (G : s.heap.Ns mainGlobals mg) {mb : Str → Option Value} (B : s.heap.Ns builtinsNs mb) (hB : ∀ y : Str, y ≠ "__name__" → mb y = bootBuiltins y)
    (hx : s.heap.get? x = some (excO C t0)) (hnx : K.lookup x = none) (hroom : A.depth < recursionLimit)
    (hq : ∀ h' tk dx, InitEnd s.heap h' x C dx v → R (.ok (.ret .none)) { s with heap := h', toks := tk }) :
    codeAny (model PR w) A (.call (.ref fI) ⟨[.ref x, v], []⟩) R s := by
  obtain ⟨oc, od, kV, doc, pm, an, cda, cc, ct, osl, ccl, cdd, vs, ccs, file, tf, cl, cld, csl, ho, hcd, hcda, hvs, hfile, hcell⟩ := T.fn
  obtain ⟨nm, q, N, bs, bm, sn, sub, ab, col, dd, k0, k1, k2, k3, k5, hC, hbm⟩ := T.cls
  have hcl : clsIn K C = some { name := nm, bases := bs, mro := .ref C :: bm, ns := N, qualname := q, hasDict := true, slotNames := sn, subclasses := sub, abstract := ab, collection := col, hasDel := false } := by unfold clsIn; rw [hC] <;> rfl
  refine ks_codeAny_call_defAt (fd := fnX "__init__" "BadNumber.__init__" (L2.defArgs sInit) (L2.defBody sInit) (L2.defScope sInit) [("__class__", cc)] .none kV doc pm an (.ref cda) ct) (binds := [("self", .ref x), ("part", v)]) hroom (X _ _ ho) rfl hlim (codeRec_of X hcd) rfl (BindsTo.of_eq (by first | rfl | with_unfolding_all rfl)) (show ∀ z ∈ (L2.defScope sInit).names, z.2 ≠ .cell by decide +kernel) (fun y hy => ?_) (fun h₁ hns k => ?_) (by rfl) (by rfl) (by rfl)
  · rcases List.mem_cons.mp hy with e | hy
    · subst e; rfl
    · have e := List.mem_singleton.mp hy
      subst e; rfl
  have X₁ : K.In h₁ := X.keeps k
  have hx₁ := k _ _ hx
  have G₁ := G.keeps k
  have B₁ := B.keeps k
  have hxL : s.heap.objs.size ≠ x := Nat.ne_of_gt (Heap.lt_size hx)
  obtain ⟨oD, hD1, hD2⟩ : ∃ oD, h₁.get? C = some oD ∧ oD.data = .cls { name := nm, bases := bs, mro := .ref C :: bm, ns := N, qualname := q, hasDict := true, slotNames := sn, subclasses := sub, abstract := ab, collection := col, hasDel := false } := ⟨_, X₁ _ _ hC, rfl⟩
  refine ks_wpAt_execs_cons (ks_wpAt_Expr_any (ks_wpAt_MethodCall ?_))
  refine ks_wpAt_super_base (ar := ⟨"self", none, ⟨6, 17, 6, 21⟩⟩) rfl rfl (by decide) rfl (k _ _ (X _ _ ho)) rfl rfl rfl (X₁ _ _ hcda) rfl hvs hfile (by decide +kernel) ?_
  refine ks_loadName_global rfl rfl (loadGlobal_builtin G₁ T.noS B₁ ((hB _ (by decide)).trans PyProof.Rows.Boot.super) ⟨rfl, ?_⟩)
  refine wpAny_loadName_free rfl rfl rfl ⟨_, X₁ _ _ hcell, rfl⟩ ?_
  refine wpAny_loadName_local rfl rfl hns (show _ = some (Value.ref x) from rfl) ?_
  refine ks_wpAny_isType_cls hD1 hD2 ⟨rfl, ?_⟩
  refine ks_wpAny_call_super (oD := oD) (ox := excO C t0) hD1 hD2 hx₁ rfl (fun c e => by cases e) (looks_mroIn X₁ T.self) (fun h₂ hso k₂ => ?_)
  have X₂ : K.In h₂ := X₁.keeps k₂
  have hx₂ := k₂ _ _ hx₁
  have hns₂ := hns.keeps k₂
  have hxC : x ≠ C := fun e => by
    rw [e] at hnx
    rw [hnx] at hC
    cases hC
  have I₂ : InstAt h₂ x (excO C t0) C none := ⟨hx₂, rfl, rfl, trivial⟩
  refine kxs_getMethod kxs_ValueError hso (looks_opaque X₂ T.opq) (l₀ := .ref C :: bm) (fun A Q E s k q => wpAny_bind ((looks_clsIn X₂ hcl) A _ E s k (wpAny_pure q))) rfl X₂ ?_ (I₂.type.andThen (looks_subIn X₂ T.veC)) hxC (by decide) ?_
  · have e := T.su
    unfold ks_superIn at e
    rw [hcl] at e
    exact e
  have k₃ : ∀ b o, h₂.get? b = some o → (h₂.push (kxs_mw "ValueError.__init__" x)).get? b = some o := fun b o e => Heap.get?_push_of_some _ e
  have hu : (h₂.push (kxs_mw "ValueError.__init__" x)).get? h₂.objs.size = some (kxs_mw "ValueError.__init__" x) := Heap.get?_push_size _ rfl
  have hux : h₂.objs.size ≠ x := Nat.ne_of_gt (Heap.lt_size hx₂)
  refine kxs_callWith (i := "ValueError.__init__") (x := x) (by rfl) (evalArgs_plain ?_)
  refine Calls.spliced_cons (Calls.Constant_str (x := "no such number") (k := 0) (pos := ⟨7, 25, 7, 41⟩) ?_)
  refine Calls.spliced_nil ⟨hu, ?_⟩
  refine call_mw (t0 := t0) (k₃ _ _ (X₂ _ _ hC)) (k₃ _ _ hx₂) hu (one_size _) fun h₄ k₄ hx₄ => ?_
  have X₄ : K.In h₄ := fun a o e => k₄ a o (fun z => by rw [z, hnx] at e; cases e) (k₃ _ _ (X₂ a o e))
  have nxL : s.heap.objs.size ≠ x := hxL
  have hns₄ : h₄.Ns s.heap.objs.size (fun y => ([(("self" : Str), Value.ref x), (("part" : Str), v)] : List (Str × Value)).reverse.lookup y) := by
    obtain ⟨o, es, ep, e, rest⟩ := hns₂
    exact ⟨o, es, ep, k₄ _ o nxL (k₃ _ o e), rest⟩
  -- self.part = part
  refine ks_wpAt_execs_cons (wpAt_of_wpAny (plainObj_wpAny_Assign_Attribute ?_))
  refine ESX.ldL (v := v) hns₄ rfl (ESX.ldL (v := .ref x) hns₄ rfl ?_)
  refine set_plain X₄ (ox := excO C (h₂.push (kxs_mw "ValueError.__init__" x)).objs.size) (od := none) ⟨hx₄, rfl, rfl, trivial⟩ T.sa ?_
  refine exc_osa X₄ hx₄ hcl (show refsVE (.ref C :: bm) = true from hbm) rfl T.noN (fun h₅ tk₅ dx k₅ dn dne hx₅ hn₅ => ?_)
  have z : s.heap.objs.size ≤ h₁.objs.size := Nat.le_of_lt hns.lt
  have z2 : h₁.objs.size ≤ h₂.objs.size := Nat.le_of_lt (Heap.lt_size hso)
  have z4 : s.heap.objs.size ≤ dx := by
    obtain ⟨o, _, _, e, _⟩ := hns₄
    exact Nat.le_of_lt (Nat.lt_of_lt_of_le (Heap.lt_size e) dn)
  refine wpAt_of_wpAny (wpAny_execs_nil (hq h₅ tk₅ dx ⟨fun b o hb e => k₅ b o hb (k₄ b o hb (k₃ _ _ (k₂ _ _ (k b o e)))), ⟨_, hx₅⟩, z4, dne, hn₅⟩))
theorem num_made (T : NumTxt K mg C fI) {v : Value} (X : K.In s.heap) (hlim : s.heap.NoLimit) (G : s.heap.Ns mainGlobals mg) {mb : Str → Option Value} (B : s.heap.Ns builtinsNs mb) (hB : ∀ y : Str, y ≠ "__name__" → mb y = bootBuiltins y) (hroom : A.depth + 1 < recursionLimit)
    (hq : ∀ h' tk e d, OwnMade s.heap h' e C d v → R (.ok (.ret (.ref e))) { s with heap := h', toks := tk }) :
    codeAny (model PR w) A (.call (.ref C) ⟨[v], []⟩) R s := by
  obtain ⟨nm, q, N, bs, bm, sn, sub, ab, col, dd, k0, k1, k2, k3, k5, hC, hbm⟩ := T.cls
  obtain ⟨hp, g, dr, tk, os⟩ := s
  have k : ∀ b o, hp.get? b = some o → ((hp.push (kdv_tup [v])).push (excO C hp.objs.size)).get? b = some o := fun b o e => Heap.get?_push_of_some _ (Heap.get?_push_of_some _ e)
  have hget : ((hp.push (kdv_tup [v])).push (excO C hp.objs.size)).get? (hp.objs.size + 1) = some (excO C hp.objs.size) := by heap_get
  have hnx : K.lookup (hp.objs.size + 1) = none := by
    cases e : K.lookup (hp.objs.size + 1) with
    | none => rfl
    | some o =>
      have z : hp.get? (hp.objs.size + 1) = some o := X _ _ e
      exact absurd (Nat.lt_of_succ_lt (Heap.lt_size z)) (Nat.lt_irrefl _)
  refine call_own F.excBase_ValueError (fun X => refsVE_contains X bm hbm) (X _ _ hC) (looks_findIn X T.iC) (fun self => bind_fn X self T.tC) (one_size v) ?_
  refine num_init (s := ⟨(hp.push (kdv_tup [v])).push (excO C hp.objs.size), g, dr, tk, os⟩) T (X.keeps k) (hlim.keeps k) (G.keeps k) (B.keeps k) hB hget hnx ?_ fun h' tk' dx ⟨k', hx, dn, dne, hns⟩ => ?_
  · show A.depth + 1 < recursionLimit
    exact hroom
  · have old : ∀ b o, hp.get? b = some o → h'.get? b = some o := fun b o e => k' b o (Nat.ne_of_lt (Nat.lt_succ_of_lt (Heap.lt_size e))) (k b o e)
    have z : hp.objs.size + 1 + 1 ≤ dx := by
      first
        | (simpa only [Heap.size_push] using dn)
        | exact dn
        | (have q := dn; rw [Heap.size_push, Heap.size_push] at q; exact q)
    obtain ⟨t1, hx⟩ := hx
    exact ⟨rfl, hq h' tk' (hp.objs.size + 1) dx ⟨old, Nat.le_succ _, ⟨_, _, hx, rfl, rfl, rfl, rfl⟩, Nat.le_trans (Nat.le_trans (Nat.le_succ _) (Nat.le_succ _)) z, dne, hns⟩⟩
end
end K60
namespace K60
open PySem PySem.Spec PyProof.Rows L2
theorem relO_part {v : V} {v' : Value} (r : RelV v v') (f : Str) : RelO (List.lookup f [(("part" : Str), v)]) (if f = "part" then some v' else none) := by
  by_cases hw : f = "part"
  · subst hw
    rw [if_pos rfl]
    have q : List.lookup ("part" : Str) [(("part" : Str), v)] = some v := by simp [List.lookup]
    rw [q]
    exact r
  · rw [if_neg hw]
    have qw : (f == ("part" : Str)) = false := by simpa using hw
    have q2 : List.lookup f [(("part" : Str), v)] = none := by simp [List.lookup, qw]
    rw [q2]
    trivial
section
variable {X : Cx} {C fI : Addr}
/-- BadNumber(e) -/
def tMkNum (C : Addr) (ta : TA) : L2.St → Hp → XK → Prop := fun σ H Q => ta σ H fun vs H1 => ∃ v, vs = [v] ∧ ∀ d, H1 d = none → Q (.ref C) (some d) (upd H1 d (.xd [(("part" : Str), v)]))
theorem pmk_num {a : Expr} {ta : TA} {p pos : Pos} {k : Nat} (hP : X.prog = PR) (T : NumTxt X.K X.mg C fI) (hr : Room k X.A) (ha : PA X [a] ta) (hg : Gl X "BadNumber" := by rfl)
    (he : starEach (a :: []) X.env = (false, eval a X.env) :: starEach [] X.env := by rfl) (hpl : (backTo pos (starEach [] X.env)).any (·.1) = false := by rfl) :
    PMk X (.Call (.Name "BadNumber" p) [a] [] pos) (tMkNum C ta) := by
  intro pins s σ H Q I h
  refine wpAny_Call_Name_kw (ld_glob I hg T.gC ?_)
  refine PySem.W.callWith_K (h₀ := X.base) I.ok.mod.kin T.kC (thn (ha.run pos pins s σ H _ I h) fun us s1 hh => ?_) he hpl
  obtain ⟨vs, H1, I1, r1, v, ev, q1⟩ := hh
  subst ev
  refine ⟨I1.kIn, ?_⟩
  cases r1 with
  | cons rv rn =>
    rename_i v' us'
    cases rn
    show wpAny _ _ (call (.ref C) [v']) _ _ _
    have hlim := I1.nolimit
    obtain ⟨mb, hb1, hb2⟩ := I1.ok.mod.blt
    have G1 := I1.ok.mod.glob.keeps I1.bk
    have B1 := hb1.keeps I1.bk
    obtain ⟨hp, g, dr, tk, os⟩ := s1
    rw [hP]
    refine wpAny_call (num_made T I1.kIn hlim G1 B1 hb2 (by have := hr.dp; omega) fun h' tk' e d M => ?_)
    show MkP X pins σ Q (.ref e) ⟨h', g, dr, tk', os⟩
    obtain ⟨oe, fv, hoe, hc, hd, hdat, h1⟩ := M.obj
    have hns := M.ns
    obtain ⟨G', g1, g2⟩ := restrict h' fun b => decide (b ≠ e)
    have gk : ∀ b, b ≠ e → G'.get? b = h'.get? b := fun b hb => g1 b (decide_eq_true hb)
    have ge : G'.get? e = none := g2 e (by simp)
    have old : ∀ b o, hp.get? b = some o → G'.get? b = some o := fun b o q => (gk b (Nat.ne_of_lt (Nat.lt_of_lt_of_le (Heap.lt_size q) M.new))).trans (M.keep b o q)
    have ob : ObjOk X.prog X.w (upd H1 d (.xd [(("part" : Str), v)])) G' d (.xd [(("part" : Str), v)]) :=
      ⟨_, hns.at (fun o q => (gk d M.dne).trans q), fun f => relO_part rv f⟩
    have J : Inv X pins σ (upd H1 d (.xd [(("part" : Str), v)])) ⟨G', g, dr, tk', os⟩ := I1.laid (t' := tk') old M.dbig ob
    refine ⟨e, oe, fv, ⟨G', g, dr, tk', os⟩, _, .ref C, some d, rfl, J, fun b o q => ?_, ge, hoe, ⟨hc, hd⟩, hdat, h1, ?_, rfl, I1.bare, raises_own T.exC T.tyC, q1 d (I1.hok.fresh M.dbig)⟩
    · by_cases hb : b = e
      · have q' : G'.get? b = some o := q
        rw [hb, ge] at q'; cases q'
      · exact (gk b hb).symm.trans q
    · rw [upd_ne (Ne.symm M.dne)]
      exact I1.hok.fresh M.new
/-- raise BadNumber(e) -/
def tRaiseNum (C : Addr) (W : WX) (ta : TA) : TS := fun _ σ H => tMkNum C ta σ H fun cls d H' => W cls d σ H'
theorem ps_raiseNum {a : Expr} {ta : TA} {W : WX} {p pos pos2 : Pos} {k : Nat} (hP : X.prog = PR) (hc : X.calm = true) (T : NumTxt X.K X.mg C fI) (hr : Room k X.A) (tk : Takes X W) (ha : PA X [a] ta) (hg : Gl X "BadNumber" := by rfl)
    (he : starEach (a :: []) X.env = (false, eval a X.env) :: starEach [] X.env := by rfl) (hpl : (backTo pos (starEach [] X.env)).any (·.1) = false := by rfl) :
    PS X (.Raise (some (.Call (.Name "BadNumber" p) [a] [] pos)) none pos2) (tRaiseNum C W ta) := ps_raise hc tk (pmk_num hP T hr ha hg he hpl)
end
end K60
set_option maxHeartbeats 4000000
namespace K60
open PySem PySem.Spec PyProof.Rows L2
/-! ### a caught exception that is kept -/
/-- at a: an exception of the class cls, its dict at d -/
def ExK (cls : Value) (d : Option Addr) (a : Addr) : HO := .ext fun h => ∃ (oe : Obj) (vs : Array Value), h.get? a = some oe ∧ Zc cls d oe ∧ oe.data = .fields vs
section
variable {X : Cx} {pins : List (Addr × Obj)} {σ : L2.St} {H : Hp} {s : Shared}
theorem Inv.track {a : Addr} {oe : Obj} {φ : Heap → Prop} (I : Inv X pins σ H s) (ha : s.heap.get? a = some oe) (na : H a = none) (n0 : X.s_0.heap.get? a = none) (nL : a ≠ X.env.locals) (nC : ∀ x c, X.env.cells.lookup x = some c → c ≠ a)
    (nP : ∀ p ∈ X.pn ++ pins, p.1 ≠ a) (hφ : φ s.heap) (st : ∀ h1 h2 : Heap, φ h1 → (∀ o, h1.get? a = some o → h2.get? a = some o) → φ h2) : Inv X pins σ (upd H a (.ext φ)) s := by
  have ne0 : ∀ b o, X.s_0.heap.get? b = some o → b ≠ a := fun b o e z => by rw [z, n0] at e; cases e
  refine ⟨I.ok, I.os, I.bare, ⟨I.base.keep, I.base.slot, fun b o e n hx => ?_, I.base.there, fun b xs e => ?_, fun b o xs e => ?_, fun b ps e => ?_⟩, I.loc, I.cell, ?_, fun x c e => ?_, fun p hp => ?_, fun b u e => ?_, I.len⟩
  · rw [upd_ne (ne0 b o e)]
    exact I.base.free b o e n hx
  · have q := I.base.tups b xs e
    rw [upd_ne (ne_of_none q na)]
    exact q
  · have q := I.base.frzs b o xs e
    rw [upd_ne (ne_of_none q na)]
    exact q
  · obtain ⟨m, q⟩ := I.base.tbls b ps e
    exact ⟨m, by rw [upd_ne (ne_of_none q na)]; exact q⟩
  · rw [upd_ne (Ne.symm nL)]
    exact I.free
  · rw [upd_ne (nC x c e)]
    exact I.freeC x c e
  · obtain ⟨e, n, ne, nf, d⟩ := I.pin p hp
    exact ⟨e, by rw [upd_ne (nP p hp)]; exact n, ne, nf, d⟩
  · by_cases hb : b = a
    · subst hb
      rw [upd_same] at e
      cases e
      exact ⟨hφ, ⟨oe, ha⟩, st⟩
    · rw [upd_ne hb] at e
      exact (I.hok b u e).stay (fun c v _ q => q) (fun c q => by rw [upd_ne (ne_of_none q na)]; exact q) fun c xs q => by rw [upd_ne (ne_of_none q na)]; exact q
end
/-- what «except x as n: c = n» wishes of an exception that the clause takes: slot i is n's, slot j is c's -/
def wKeep (K : PySem.W.Frag) (cl : Value) (i j : Nat) (D : Ends) : WX := fun cls d σ H =>
  PySem.W.exmOne K cls cl = some true ∧ ∀ a, H a = none → D.nx (((σ.set i (some (.ref a))).set j (some (.ref a))).set i none) (upd H a (ExK cls d a))
section
variable {X : Cx} {x n c : Str} {cl : Value} {i j : Nat} {body : List Stmt} {np pos pos' cp np2 ap : Pos} {tb : WX → TS}
theorem ps_try_keep (hs : X.stack = X.env :: X.outer) (hf : X.env.frame = some X.env.locals) (hex : X.ex = []) (hN : X.N.Nodup) (hi : X.N[i]? = some n) (hj : X.N[j]? = some c) (hln : X.env.kindOf n = some .local) (hlc : X.env.kindOf c = some .local) (hc : Names X x cl)
    (hd : (n == ("__debug__" : Str)) = false) (hcd : (n == ("__classdict__" : Str)) = false)
    (hsw : swapsWith (.Name n np2) (some (.Name c cp)) ap.line X.env = pure false)
    (hb : ∀ (W : WX) (pn : List (Addr × Obj)) (xe : Value → Shared → Prop), Takes (X.tr pn xe) W → PassesOwn (model X.prog X.w) X.A X.env xe → PSs (X.tr pn xe) body (tb W)) :
    PS X (.Try body [.ExceptHandler (some (.Name x np)) (some n) [.Assign [.Name c cp] (.Name n np2) ap] pos'] [] [] pos) (fun D σ H => tb (wKeep X.K cl i j D) D σ H) := by
  refine ⟨fun pins s σ H D I h => ?_⟩
  have ok := I.ok
  have hfr : X.A.frames = some (X.env :: X.outer) := by rw [ok.frames, hs]
  have hloc : Loc X.env.scope n := .inl hln
  have hlocc : Loc X.env.scope c := .inl hlc
  refine wpAny_Try_except ?_
  refine wpAny_mono ((hb (wKeep X.K cl i j D) (X.pn ++ pins) (fun e s₁ => wpAny (model X.prog X.w) X.A (noteFrame e X.env) (fun _ s₂ => wpAny (model X.prog X.w) X.A (setFlight e none) (fun _ s₃ =>
    wpAny (model X.prog X.w) X.A (handleBy e X.env [.ExceptHandler (some (.Name x np)) (some n) [.Assign [.Name c cp] (.Name n np2) ap] pos']) (SP X pins D) X.xe s₃) X.xe s₂) X.xe s₁) (fun u s' xx => ?_) PassesOwn.looking).run [] s σ H D (I.toTry _) h) (fun f s1 hsp => ?_) (fun e s1 he => he)
  · obtain ⟨a, B, sI, pins', σ', H', cls, d, rfl, J', nb, up, sky, na, os, ag, hb1, hyes⟩ := xx
    have J : Inv X pins σ' H' sI := J'.ofTry ok
    have sky' : Sky B (X.env :: X.outer) a (Zc cls d) X.env.locals s'.heap := by rw [← hs]; exact sky
    show wpAny (model X.prog X.w) X.A (noteFrame (.ref a) X.env) _ _ _
    refine Sky.land Zc.steady hfr hf sky' fun h3 fl3 up3 => ?_
    have J3 : Inv X pins σ' H' { s' with heap := h3 } := J.landed nb fl3.1 (up.trans up3) os ag
    obtain ⟨oe3, vs3, he3, hz3, hd3⟩ := fl3.there
    have notFr : ∀ {h : Heap} {o : Obj} {vs : Array Value}, h.FunFrames B (X.env :: X.outer) → h.get? a = some o → o.data = .fields vs → a ∉ frs (X.env :: X.outer) := fun {h o vs} ff e dd hm => by
      obtain ⟨_, o', e', hnf⟩ := ff.mem hm
      rw [e] at e'; cases e'
      exact hnf _ dd
    have nfr := notFr fl3.2.2.1 he3 hd3
    have nL : a ≠ X.env.locals := fun z => nfr (List.mem_filterMap.mpr ⟨X.env, List.mem_cons_self, by rw [hf, z]⟩)
    have nF : a ∉ X.fs := fun hm => by
      obtain ⟨e, he, q⟩ := List.mem_filterMap.mp hm
      exact nfr (List.mem_filterMap.mpr ⟨e, List.mem_cons_of_mem _ he, q⟩)
    -- the exception is younger than the state ahead of it
    have nI : sI.heap.get? a = none := by
      cases e : sI.heap.get? a with
      | none => rfl
      | some o =>
        have q := nb a o e (by rw [hs]; exact nfr)
        rw [fl3.2.1] at q
        cases q
    have n0 : X.s_0.heap.get? a = none := by
      cases e : X.s_0.heap.get? a with
      | none => rfl
      | some o =>
        obtain ⟨o', q⟩ := J.base.there a o e (by rw [hex]; exact fun z => nomatch z)
        rw [nI] at q
        cases q
    have nC : ∀ y z, X.env.cells.lookup y = some z → z ≠ a := fun y z e q => by
      obtain ⟨v, o, ho, _⟩ := J.cell y z e
      rw [q, nI] at ho
      cases ho
    have nP : ∀ p ∈ X.pn ++ pins, p.1 ≠ a := fun p hp q => by
      have e := (J.pin p hp).1
      rw [q, nI] at e
      cases e
    have S3 := J3.suite he3 hd3 na nL nF
    refine wpAny_handleBy_cons (codeAny_handlers_test ?_) (by intro q; cases q)
    have LT : PySem.W.Looks (model X.prog X.w) h3 (typeOf (.ref a)) cls := fun A Q E s k q => wpAny_typeOf_ref (k _ _ he3) (by rw [hz3.1]; exact q)
    have LM := PySem.W.exm_one (M := model X.prog X.w) (J3.kIn) LT hb1
    have test : ∀ {Q : Value → Shared → Prop} {E : Value → Shared → Prop}, Q cl { s' with heap := h3 } → wpAny (model X.prog X.w) (X.A.mark (some (.ref a))) (eval (.Name x np) X.env) Q E { s' with heap := h3 } := fun {Q E} q => by
      obtain ⟨hg, hdbg, hm | ⟨hm, hv, hnn⟩⟩ := hc
      · exact ld_glob (X := X.suite a ((a, oe3) :: (X.pn ++ pins))) S3 hg hm q hdbg
      · exact ld_blt (X := X.suite a ((a, oe3) :: (X.pn ++ pins))) S3 hg hm hv q hnn hdbg
    refine test (LM.here ?_)
    refine codeAny_handlers_suite_as ?_
    refine HandSPX.lands_againZ fl3 fun h4 fl4 up4 => ?_
    have J4 : Inv X pins σ' H' { s' with heap := h4 } := J.landed nb fl4.1 ((up.trans up3).trans up4) os ag
    obtain ⟨oe4, vs4, he4, hz4, hd4⟩ := fl4.there
    have S4 := J4.suite he4 hd4 na nL nF
    refine store_ok (X := X.suite a ((a, oe4) :: (X.pn ++ pins))) (v := .ref a) S4 hN hi hloc rfl (fun s5 S5 => ?_) (.inr hln)
    have il : i < σ'.length := by rw [J4.len]; exact (List.getElem?_eq_some_iff.mp hi).1
    have suite : PSs (X.suite a ((a, oe4) :: (X.pn ++ pins))) [.Assign [.Name c cp] (.Name n np2) ap] (tAsg (tVar i) (gName j)) :=
      pss_one (ps_set (X := X.suite a ((a, oe4) :: (X.pn ++ pins))) hN hj hlocc (pe_var (X := X.suite a ((a, oe4) :: (X.pn ++ pins))) hi (.inl hln) hd hcd) hsw (.inr hlc))
    refine wpAny_mono (suite.run [] s5 _ H' { nx := fun σ6 H6 => σ6 = (σ'.set i (some (.ref a))).set j (some (.ref a)) ∧ H6 = H', rt := fun _ _ => False } S5 ?_) (fun f s6 hsp => ?_) (fun _ _ z => False.elim z)
    · exact ⟨.ref a, by rw [List.getElem?_set_self il], rfl, rfl⟩
    · cases f with
      | next =>
        obtain ⟨σ6, H6, S6, rfl, rfl⟩ := hsp
        have ha6 := (S6.pin (a, oe4) (List.mem_append_left _ List.mem_cons_self)).1
        have J6 := S6.unsuite ok
        have J7 := Inv.track (φ := fun h => ∃ (oe : Obj) (vs : Array Value), h.get? a = some oe ∧ Zc cls d oe ∧ oe.data = .fields vs) J6 ha6 na n0 nL nC nP ⟨oe4, vs4, ha6, hz4, hd4⟩
          fun h1 h2 ⟨oe, vs, e1, e2, e3⟩ k => ⟨oe, vs, k _ e1, e2, e3⟩
        exact gone_ok J7 hN hi hln fun s7 J8 => ⟨_, _, J8, hyes a na⟩
      | brk => obtain ⟨_, _, _, q⟩ := hsp; exact q.elim
      | cont => obtain ⟨_, _, _, q⟩ := hsp; exact q.elim
      | ret u => obtain ⟨_, _, _, _, _, q⟩ := hsp; exact q.elim
  · cases f with
    | next =>
      obtain ⟨σ', H', J', q⟩ := hsp
      exact wpAny_execs_nil ⟨σ', H', J'.ofTry ok, q⟩
    | brk =>
      obtain ⟨σ', H', J', q⟩ := hsp
      exact ⟨σ', H', J'.ofTry ok, q⟩
    | cont =>
      obtain ⟨σ', H', J', q⟩ := hsp
      exact ⟨σ', H', J'.ofTry ok, q⟩
    | ret u =>
      obtain ⟨v, σ', H', J', r, q⟩ := hsp
      exact ⟨v, σ', H', J'.ofTry ok, r, q⟩
end
end K60
set_option maxHeartbeats 4000000
namespace K60
open PySem PySem.Spec PySem.Calls PyProof.Rows PySem.W
/-! ### isinstance of a kept exception that has its dict -/
section
variable {prog : Program} {w : World} {A : Around} {E : Value → Shared → Prop} {s : Shared} {K : Frag} {x D : Addr} {ox : Obj} {od : Option Obj}
theorem findObj_dataD {C : Addr} {name : Str} {a g : Value} (hc : (clsIn K C).isSome = true) (ha : findIn K (.ref C) name = some (some a)) (hg : specialIn K a "__get__" = some (some g)) (ht : takesIn K a = some true) : findObj K C od name = some (.bind g a) := by
  obtain ⟨cd, hc⟩ := Option.isSome_iff_exists.mp hc
  unfold findObj
  rw [hc, Option.bind_some, ha, Option.bind_some]
  simp [hg, ht]
theorem kin_classD {Q : Option Value → Shared → Prop} (hga : findIn K (.ref D) "__getattribute__" = some (some (.builtin "BaseException.__getattribute__"))) (hgt : findIn K (.ref D) "__getattr__" = some none) (hsub : subIn K (.ref D) (.type "BaseException") = some true)
    (hdct : hasDictIn K D = true) (ha : findIn K (.ref D) "__class__" = some (some (.builtin "object.__class__")))
    (hn : specialIn K (.builtin "object.__class__") "__get__" = some (some (.builtin "getset_descriptor.__get__"))) (htk : takesIn K (.builtin "object.__class__") = some true) (hm : mroIn K D (.type "object") = some true)
    (X : K.In s.heap) (I : InstAt s.heap x ox D od) (h : Q (some (.ref D)) { s with toks := s.toks + 1 }) : wpAny (model prog w) A (getAttr? (.ref x) "__class__") Q E s := by
  have hf : findObj K D od "__class__" = some (.bind (.builtin "getset_descriptor.__get__") (.builtin "object.__class__")) := findObj_dataD (by obtain ⟨cd, hc, _⟩ := any_some hdct; rw [hc]; rfl) ha hn htk
  obtain ⟨hp, g, d, t, os⟩ := s
  have L0 := I.type (M := model prog w)
  have L1 := looks_findIn (M := model prog w) X hga
  have L2 := looks_findIn (M := model prog w) X hgt
  have L3 := looks_find (M := model prog w) X I hf
  have sub : Looks (model prog w) hp (isInstance (.ref x) (.type "BaseException")) true := L0.andThen (looks_subIn X hsub)
  have hx0 : (false && onTheHeap (Value.builtin "BaseException.__getattribute__")) = false := rfl
  have hx2 : (Value.builtin "BaseException.__getattribute__" == Value.builtin "object.__getattribute__") = false := by decide +kernel
  have hx1 : (onTheHeap (Value.ref D) && Value.builtin "BaseException.__getattribute__" == Value.builtin "object.__getattribute__") = false := by rw [hx2]; rfl
  unfold getAttr? getAttrBy? getAttrBy
  refine wpAny_bind (wpAny_mkText (wpAny_bind (wpAny_attempt (wpAny_holding (wpAny_bind (L0.at (wpAny_bind (L1.at ?_))))))))
  show wpAny _ _ (if (onTheHeap (Value.ref D) && Value.builtin "BaseException.__getattribute__" == Value.builtin "object.__getattribute__") = true then _ else _) _ _ _
  rw [hx1, if_neg Bool.false_ne_true]
  unfold getAttrByItsOwn hookBefore
  refine wpAny_bind ?_
  rw [if_pos (show onTheHeap (Value.ref D) = true from rfl)]
  refine L2.at ?_
  refine wpAny_bind (wpAny_attempt (wpAny_holding ?_))
  unfold callGetattribute
  rw [hx0, if_neg Bool.false_ne_true]
  unfold boundAndCalled
  rw [PySem.F.excAttr_ValueError.ga.bind (.ref x)]
  refine wpAny_bind (wpAny_pure ?_)
  show wpAny _ _ (call (.builtin "BaseException.__getattribute__") [.ref x, .str "__class__" t]) _ _ _
  refine wpAny_call (codeAny_call_builtin PySem.F.excAttr_ValueError.ga.plain PySem.F.entry_bexc_ga ?_)
  refine @check_slot (model prog w) _ _ ⟨hp, g, d, t + 1, os⟩ "BaseException.__getattribute__" "BaseException" "__getattribute__" (.ref x) [.str "__class__" t] [] _ (by decide +kernel) (by decide +kernel) sub (PySem.F.args_bexc_ga (.ref x) (.str "__class__" t)) ?_
  unfold Builtin.«object.__getattribute__»
  refine wpAny_bind (wpAny_of_eq (a := ((Value.ref x : Value), [Value.str "__class__" t])) (by first | rfl | (simp only [slotArgs]; rfl)) ?_)
  refine wpAny_bind (wpAny_pure (wpAny_bind (L0.at (wpAny_bind (L3.at ?_)))))
  show wpAny _ _ (holding [Value.builtin "object.__class__"] (call (.builtin "getset_descriptor.__get__") [.builtin "object.__class__", .ref x, .ref D]) >>= ret) _ _ _
  refine wpAny_bind (wpAny_holding (wpAny_call (class_get (s := ⟨hp, g, d, t + 1, os⟩) (ox := ox) (od := od) X I hm ?_)))
  refine wpAny_pure ?_
  show wpAny _ _ (handedOut (.ref D)) _ _ _
  rw [handedOut_of (v := .ref D) rfl]
  first
    | exact wpAny_pure (wpAny_pure h)
    | exact wpAny_pure h
    | exact wpAny_pure (wpAny_bind (wpAny_pure (wpAny_pure h)))
theorem kitx_excD (hga : findIn K (.ref D) "__getattribute__" = some (some (.builtin "BaseException.__getattribute__"))) (hgt : findIn K (.ref D) "__getattr__" = some none) (hsub : subIn K (.ref D) (.type "BaseException") = some true) (hdct : hasDictIn K D = true) (ha : findIn K (.ref D) "__class__" = some (some (.builtin "object.__class__")))
    (hn : specialIn K (.builtin "object.__class__") "__get__" = some (some (.builtin "getset_descriptor.__get__"))) (htk : takesIn K (.builtin "object.__class__") = some true) (hm : mroIn K D (.type "object") = some true) :
    KitX K (.ref x) (.ref D) (fun h => InstAt h x ox D od) where
  ty := fun _ _ _ I => I.type
  it := fun _ _ X _ => by
    obtain ⟨cdD, hcD, _⟩ := any_some hdct
    unfold clsIn at hcD
    split at hcD
    · rename_i c' d' cd' sl' ho
      intro A' Q' E' s' k q
      unfold isType loadHead
      exact wpAny_bind (wpAny_loadPart (k _ _ (X _ _ ho)) (wpAny_pure q))
    · cases hcD
  ne := fun h tp dd its n sl X htp => by
    obtain ⟨cdD, hcD, _⟩ := any_some hdct
    refine Bool.eq_false_iff.mpr fun q => ?_
    have e : D = tp := Value.ref.inj (beq_iff_eq.mp q)
    subst e
    unfold clsIn at hcD
    split at hcD
    · rename_i c' d' cd' sl' ho
      have z := (X _ _ ho).symm.trans htp
      cases z
    · cases hcD
  ca := fun X I k => kin_classD hga hgt hsub hdct ha hn htk hm X I k
end
end K60
namespace K60
open PySem PySem.Spec PyProof.Rows L2
/-- what the written part says besides, so that a kept exception can be asked -/
structure NumIs (K : PySem.W.Frag) (D : Addr) : Prop where
  ha : PySem.W.findIn K (.ref D) "__class__" = some (some (.builtin "object.__class__"))
  hn : PySem.W.specialIn K (.builtin "object.__class__") "__get__" = some (some (.builtin "getset_descriptor.__get__"))
  ht : PySem.W.takesIn K (.builtin "object.__class__") = some true
  hm : PySem.W.mroIn K D (.type "object") = some true
  one : PySem.W.kitOne K (.ref D) (.ref D) = some true
section
variable {X : Cx} {C fI : Addr}
theorem exk_at {pins : List (Addr × Obj)} {σ : L2.St} {H : Hp} {s : Shared} {a dd : Addr} {cls : Value} {fs : List (Str × V)} (I : Inv X pins σ H s) (ha : H a = some (ExK cls (some dd) a)) (hd : H dd = some (.xd fs)) :
    ∃ (oe od : Obj) (C' : Value), s.heap.get? a = some oe ∧ oe.cls = cls ∧ oe.dict = some dd ∧ (∃ vs, oe.data = .fields vs) ∧ s.heap.get? dd = some od ∧ C' = cls := by
  obtain ⟨⟨oe, vs, e1, e2, e3⟩, _, _⟩ := I.hok a _ ha
  have hx : ObjOk X.prog X.w H s.heap dd (.xd fs) := I.hok dd _ hd
  obtain ⟨mA, ⟨od, _, _, e4, _⟩, _⟩ := hx
  exact ⟨oe, od, cls, e1, e2.1, e2.2, ⟨vs, e3⟩, e4, rfl⟩
/-- isinstance(e, BadNumber), e a kept one -/
def rIsK (C : Addr) : List V → Hp → VK → Prop := fun xs H Q => ∃ (a dd : Addr) (fs : List (Str × V)), xs = [.ref a, .ref C] ∧ H a = some (ExK (.ref C) (some dd) a) ∧ H dd = some (.xd fs) ∧ Q (.bl true) H
theorem call_isK (T : NumTxt X.K X.mg C fI) (N : NumIs X.K C) : CallR X (.builtin "isinstance") (rIsK C) := by
  intro pins s σ H xs us Q I r h
  obtain ⟨a, dd, fs, rfl, ha, hd, q⟩ := h
  obtain ⟨u1, u2, rfl, r1, r2⟩ := vals2 r
  obtain rfl : u1 = Value.ref a := r1
  obtain rfl : u2 = Value.ref C := r2
  obtain ⟨oe, od, _, e1, e2, e3, ⟨vs, e4⟩, e5, _⟩ := exk_at I ha hd
  have J : PySem.W.InstAt s.heap a oe C (some od) := ⟨e1, e2, by unfold PySem.W.notCls; rw [e4] <;> rfl, by rw [e3]; exact e5⟩
  exact PySem.W.kia_one (kitx_excD T.ga T.gg T.exC T.hdC N.ha N.hn N.ht N.hm) I.kIn J N.one (fun z => nomatch z) fun tk => ⟨.bl true, H, I.tok tk, rfl, q⟩
/-- e.part, e a kept one -/
def tPart (C : Addr) (te : TE) : TE := fun σ H Q => te σ H fun x H1 => ∃ (a dd : Addr) (v : V), x = .ref a ∧ H1 a = some (ExK (.ref C) (some dd) a) ∧ H1 dd = some (.xd [(("part" : Str), v)]) ∧ Q v H1
theorem pe_part {e : Expr} {te : TE} {pos : Pos} (T : NumTxt X.K X.mg C fI) (he : PE X e te) (hb : attributeBase e "part" X.env (eval e X.env) = eval e X.env := by rfl) : PE X (.Attribute e "part" pos) (tPart C te) := by
  refine ⟨fun pins s σ H Q I h => ?_⟩
  refine attr_of hb (thn (he.run pins s σ H _ I h) fun u s1 hh => ?_)
  obtain ⟨x, H1, I1, rx, a, dd, v, ex, ea, ed, q⟩ := hh
  subst ex
  obtain rfl : u = Value.ref a := rx
  obtain ⟨oe, _, _, e1, e2, e3, ⟨vs, e4⟩, _, _⟩ := exk_at I1 ea ed
  have hx : ObjOk X.prog X.w H1 s1.heap dd (.xd [(("part" : Str), v)]) := I1.hok dd _ ed
  obtain ⟨mA, hns, hr⟩ := hx
  obtain ⟨od, ho, hl⟩ := lookIn_ns hns
  obtain ⟨u, hu, ru⟩ := RelO.some_of (v := v) (o := mA "part") (by have z := hr "part"; simpa [List.lookup] using z)
  have J : PySem.W.InstAt s1.heap a oe C (some od) := ⟨e1, e2, by unfold PySem.W.notCls; rw [e4] <;> rfl, by rw [e3]; exact ho⟩
  exact HandSPX.exc_get I1.kIn J T.ga T.gg T.exC (PySem.W.findObj_own T.hdC T.noN rfl (by rw [hl, hu])) (handed_of ru) ⟨v, H1, I1.tok _, ru, q⟩
end
end K60
set_option maxHeartbeats 4000000
namespace K60
open PySem PySem.Spec PyProof.Rows L2 LamX
/-! ### a lambda with or without one default, made and handed to _law_heard -/
/-- the function's data: dV its defaults -/
abbrev lmFd (q : Str) (params : Arguments) (body : Expr) (scope : Scope) (cl : List (Str × Addr)) (dV pm cv ctv : Value) : FuncData := { PySem.W.kla_fn "<lambda>" q params body scope cl pm cv ctv with defaults := dV }
abbrev lmObj (q : Str) (params : Arguments) (body : Expr) (scope : Scope) (cl : List (Str × Addr)) (dV pm cv ctv : Value) : Obj := { cls := .type "function", data := .func (lmFd q params body scope cl dV pm cv ctv) }
section
variable {M : Model} {A : Around} {E : Value → Shared → Prop} {s : Shared} {qual : Str} {params : Arguments} {body : Expr} {scope : Scope} {env : Env} {c P : Addr} {ps : Array Value} {pos : Pos} {firstLine : Nat} {mg : Str → Option Value}
  {clos : List (Str × Addr)} {dV : Value} {Q : Value → Shared → Prop}
theorem lm_tail (hcl : closureFor scope env = pure clos) (hge0 : env.globals = mainGlobals) (hg : s.heap.Ns mainGlobals mg) (hcode : env.code = .ref c) (C : PySem.W.CodeHd s.heap c P) (hP : s.heap.get? P = some { cls := .none, data := .fields ps }) (ht : TriplesOk ps.toList)
    (hnf : codeAmong pos ps.toList = none) (hgP : mainGlobals ≠ P) (hb : s.heap.BuiltinsAt mg P)
    (h : ∀ c' ctv h' tk, Heap.ExtBut P s.heap h' → s.heap.objs.size ≤ c' → c' < h'.objs.size → h'.CodeRec (.ref c') qual → h'.get? P = some { cls := .none, data := .fields (ps ++ #[rawInt pos.line, rawInt pos.col, .ref c']) } →
      Q (.ref h'.objs.size) { s with heap := h'.push (lmObj qual params body scope clos dV ((mg "__name__").getD .none) (.ref c') ctv), toks := tk }) :
    wpAny M A (makeTail "<lambda>" qual params (.expr body) scope env dV .none none pos firstLine) Q E s := by
  obtain ⟨bm, ob, hbm, hne0, _, hneP, hbo, hcls, hdict, hdata⟩ := hb
  unfold makeTail
  rw [hcl, hge0]
  refine wpAny_bind (wpAny_pure ?_)
  cases clos with
  | nil =>
    simp only [List.isEmpty_nil, if_true]
    refine wpAny_bind (wpAny_pure ?_)
    refine wpAny_bind (PySem.wpAny_functionCodeX hcode (C.code hP ht) (C.tab hP) hnf fun c' h' tk hx hge hlt _ hrec htb _ => ?_)
    have hg' := hg.extBut hx hgP
    refine wpAny_bind (wpAny_builtinsFor hg' hbm hne0 (hx _ _ hneP hbo) hcls hdict hdata ?_)
    refine wpAny_bind (wpAny_nsGet hg' ?_)
    exact wpAny_bind (wpAny_pure (wpAny_newObj_type (h c' .none h' tk hx hge hlt hrec htb.2) (by size_fits)))
  | cons q r =>
    simp only [List.isEmpty_cons, Bool.false_eq_true, if_false]
    refine wpAny_bind (wpAny_newTextTuple ?_)
    refine wpAny_bind (PySem.wpAny_functionCodeX hcode ((C.keeps fun b o e => Heap.get?_push_of_some _ e).code (Heap.get?_push_of_some _ hP) ht) ((C.keeps fun b o e => Heap.get?_push_of_some _ e).tab (Heap.get?_push_of_some _ hP)) hnf fun c' h' tk hx hge hlt _ hrec htb _ => ?_)
    have hg' := (hg.push _).extBut hx hgP
    have hx' : Heap.ExtBut P s.heap h' := fun b o hb' e => hx b o hb' (Heap.get?_push_of_some _ e)
    have hge' : s.heap.objs.size ≤ c' := Nat.le_trans (by rw [Heap.size_push]; omega) hge
    refine wpAny_bind (wpAny_builtinsFor hg' hbm hne0 (hx' _ _ hneP hbo) hcls hdict hdata ?_)
    refine wpAny_bind (wpAny_nsGet hg' ?_)
    exact wpAny_bind (wpAny_pure (wpAny_newObj_type (h c' _ h' tk hx' hge' hlt hrec htb.2) (by size_fits)))
theorem lm_tailHit {cv : Value} (hcl : closureFor scope env = pure clos) (hge0 : env.globals = mainGlobals) (hg : s.heap.Ns mainGlobals mg) (hcode : env.code = .ref c) (C : PySem.W.CodeHd s.heap c P) (hP : s.heap.get? P = some { cls := .none, data := .fields ps }) (ht : TriplesOk ps.toList)
    (hf : codeAmong pos ps.toList = some cv) (hb : s.heap.BuiltinsAt mg P)
    (h : ∀ (ctv : Value) (h' : Heap) (tk : Tok), (∀ b o, s.heap.get? b = some o → h'.get? b = some o) → s.heap.objs.size ≤ h'.objs.size →
      Q (.ref h'.objs.size) { s with heap := h'.push (lmObj qual params body scope clos dV ((mg "__name__").getD .none) cv ctv), toks := tk }) :
    wpAny M A (makeTail "<lambda>" qual params (.expr body) scope env dV .none none pos firstLine) Q E s := by
  obtain ⟨bm, ob, hbm, hne0, _, hneP, hbo, hcls, hdict, hdata⟩ := hb
  unfold makeTail
  rw [hcl, hge0]
  refine wpAny_bind (wpAny_pure ?_)
  cases clos with
  | nil =>
    simp only [List.isEmpty_nil, if_true]
    refine wpAny_bind (wpAny_pure ?_)
    refine wpAny_bind (PySem.wpAny_functionCode_hit hcode (C.code hP ht) hf ?_)
    refine wpAny_bind (wpAny_builtinsFor hg hbm hne0 hbo hcls hdict hdata ?_)
    refine wpAny_bind (wpAny_nsGet hg ?_)
    exact wpAny_bind (wpAny_pure (wpAny_newObj_type (h .none s.heap s.toks (fun _ _ e => e) (Nat.le_refl _)) (by size_fits)))
  | cons q r =>
    simp only [List.isEmpty_cons, Bool.false_eq_true, if_false]
    refine wpAny_bind (wpAny_newTextTuple ?_)
    refine wpAny_bind (PySem.wpAny_functionCode_hit hcode ((C.keeps fun b o e => Heap.get?_push_of_some _ e).code (Heap.get?_push_of_some _ hP) ht) hf ?_)
    refine wpAny_bind (wpAny_builtinsFor (hg.push _) hbm hne0 (Heap.get?_push_of_some _ hbo) hcls hdict hdata ?_)
    refine wpAny_bind (wpAny_nsGet (hg.push _) ?_)
    have hsz : ∀ oT : Obj, s.heap.objs.size ≤ (s.heap.push oT).objs.size := fun oT => by rw [Heap.size_push]; omega
    exact wpAny_bind (wpAny_pure (wpAny_newObj_type (h _ _ s.toks (fun b o e => Heap.get?_push_of_some _ e) (hsz _)) (by size_fits)))
end
/-- the defaults of the lambda: none, or the tuple at T of one int -/
def DflAt (h : Heap) (dV : Value) (one : Bool) : Prop := match one with
  | false => dV = .none
  | true => ∃ (T : Addr) (tk : Tok), dV = .ref T ∧ h.get? T = some { cls := .type "tuple", data := .seq #[.int 0 tk] }
theorem DflAt.keeps {h h' : Heap} {dV : Value} {one : Bool} (d : DflAt h dV one) (k : ∀ b o, h.get? b = some o → h'.get? b = some o) : DflAt h' dV one := by
  cases one with
  | false => exact d
  | true =>
    obtain ⟨T, tk, e, q⟩ := d
    exact ⟨T, tk, e, k _ _ q⟩
/-- the lambda's text: no parameter, or one of the default 0 -/
structure LamP (params : Arguments) (one : Bool) : Prop where
  none : one = false → ∀ env, defaultsOf params env = ([], [])
  some : one = true → ∀ env : Env, ∃ (k : Nat) (p : Pos), defaultsOf params env = ([eval (.Constant (.int 0) k p) env], [])
  kwo : params.kwonlyargs = []
section
variable {X : Cx} {pins : List (Addr × Obj)} {σ : L2.St} {H : Hp} {s : Shared}
/-- what stands when the lambda is made: the function f, its code object c' -/
theorem lm_make {T : List (Addr × Str)} {c P : Addr} {params : Arguments} {body : Expr} {scope : Scope} {pos : Pos} {one : Bool} {E : Value → Shared → Prop} {Q : Value → Shared → Prop} (I : Inv X pins σ H s) (TB : TabB X.base X.mg c P) (hcode : X.env.code = .ref c)
    (hm : (P, X.env.qual ++ "<lambda>") ∈ T) (hu : ∀ p ∈ T, p.1 = P → p.2 = X.env.qual ++ "<lambda>") (hT : Tabs T H) (hp : LamP params one) (hfree : ∀ y ∈ scope.names, y.2 = .free → ∃ c, X.env.cells.lookup y.1 = some c)
    (h : ∀ (f c' : Addr) (dV pm ctv : Value) (H1 : Hp) (s' : Shared), Inv X pins σ H1 s' → ExtN H H1 → Tabs T H1 →
      s'.heap.get? f = some (lmObj (X.env.qual ++ "<lambda>") params body scope (cloFrom X.env.cells scope.names []) dV pm (.ref c') ctv) → H1 f = none → f ∉ frs X.stack → DflAt s'.heap dV one → (∀ T, dV = .ref T → H1 T = none ∧ T ∉ frs X.stack) → H1 c' = some (CodeO c' (X.env.qual ++ "<lambda>")) → Q (.ref f) s') :
    wpAny (model X.prog X.w) X.A (eval (.Lambda params body scope pos) X.env) Q E s := by
  have nofr : ∀ {s2 : Shared} {H2 : Hp}, Inv X pins σ H2 s2 → ∀ f, s2.heap.objs.size ≤ f → f ∉ frs X.stack := fun {s2 H2} I2 f hf z => by
    rcases List.mem_cons.mp (I2.stkSub _ z) with e | e
    · have h1 := I2.lt
      rw [← e] at h1
      exact Nat.lt_irrefl _ (Nat.lt_of_lt_of_le h1 hf)
    · exact I2.nofs hf e
  -- behind the defaults
  have tail : ∀ (s2 : Shared) (dV : Value), Inv X pins σ H s2 → DflAt s2.heap dV one → (∀ T, dV = .ref T → H T = none ∧ T ∉ frs X.stack) → wpAny (model X.prog X.w) X.A (makeTail "<lambda>" (X.env.qual ++ "<lambda>") params (.expr body) scope X.env dV .none none pos pos.line) Q E s2 := by
    intro s2 dV I2 hd hn
    obtain ⟨ps, hP, ht, ha⟩ := hT _ hm
    have bP : s2.heap.BuiltinsAt X.mg P := TB.bm.keeps I2.bk
    have hP' : s2.heap.get? P = some { cls := .none, data := .fields ps } := I2.hok P _ hP
    have hTP : ∀ T, dV = .ref T → T ≠ P := fun T e z => by
      have := (hn T e).1
      rw [z, hP] at this
      cases this
    cases hc : codeAmong pos ps.toList with
    | none =>
      refine lm_tail (mg := X.mg) (c := c) (P := P) (ps := ps) (closure_ok hfree) I2.ok.glob (I2.mod.glob.keeps I2.bk) hcode (TB.code.keeps I2.bk) hP' ht hc TB.gP bP fun c' ctv h' tk hx hge hlt hrec htb => ?_
      obtain ⟨c2, oc, vs, t, e2, hoc, hdd, hv⟩ := hrec
      cases e2
      have hsz : s2.heap.objs.size ≤ h'.objs.size := Nat.le_trans hge (Nat.le_of_lt hlt)
      have nC : H c' = none := I2.hok.fresh hge
      have I1 := inv_table (t' := tk) (more := #[rawInt pos.line, rawInt pos.col, .ref c']) (h' := h'.push (lmObj (X.env.qual ++ "<lambda>") params body scope (cloFrom X.env.cells scope.names []) dV ((X.mg "__name__").getD .none) (.ref c') ctv)) I2 hP
        (fun b o hb e => Heap.get?_push_of_some _ (hx b o hb e)) (Heap.get?_push_of_some _ htb) hge ⟨oc, vs, t, Heap.get?_push_of_some _ hoc, hdd, hv⟩
      have hE : ExtN H (upd (upd H P (.tbl (ps ++ #[rawInt pos.line, rawInt pos.col, .ref c']))) c' (CodeO c' (X.env.qual ++ "<lambda>"))) := fun b o e n => by
        rw [upd_ne (ne_of_none e nC), upd_ne (fun z => n ps (Option.some.inj (e.symm.trans (by rw [z]; exact hP))))]
        exact e
      have eL : (ps ++ #[rawInt pos.line, rawInt pos.col, .ref c']).toList = ps.toList ++ [rawInt pos.line, rawInt pos.col, .ref c'] := by simp
      have dK : DflAt (h'.push (lmObj (X.env.qual ++ "<lambda>") params body scope (cloFrom X.env.cells scope.names []) dV ((X.mg "__name__").getD .none) (.ref c') ctv)) dV one := by
        cases one with
        | false => exact hd
        | true =>
          obtain ⟨T, tk, e, q⟩ := hd
          exact ⟨T, tk, e, Heap.get?_push_of_some _ (hx _ _ (hTP T e) q)⟩
      refine h h'.objs.size c' dV ((X.mg "__name__").getD .none) ctv _ _ I1 hE (fun p hp => ?_) (Heap.get?_push_size _ rfl) ?_ (nofr I2 _ hsz) dK (fun T e => ?_) upd_same
      · by_cases hb : p.1 = P
        · rw [hu p hp hb, hb]
          refine ⟨_, by rw [upd_ne (ne_of_none hP nC), upd_same], by rw [eL]; exact PySem.TriplesOk_snoc _ _ _ _ ht, fun p' cv hcv => ?_⟩
          rw [eL] at hcv
          rcases among_app _ ht hcv with z | z
          · obtain ⟨c0, e1, e2⟩ := ha p' cv z
            exact ⟨c0, e1, hE _ _ e2 codeO_ne⟩
          · exact ⟨c', z, upd_same⟩
        · obtain ⟨ps', a1, a2, a3⟩ := hT p hp
          refine ⟨ps', by rw [upd_ne (ne_of_none a1 nC), upd_ne hb]; exact a1, a2, fun p' cv hcv => ?_⟩
          obtain ⟨c0, e1, e2⟩ := a3 p' cv hcv
          exact ⟨c0, e1, hE _ _ e2 codeO_ne⟩
      · have n1 : h'.objs.size ≠ c' := Nat.ne_of_gt hlt
        have n2 : h'.objs.size ≠ P := Nat.ne_of_gt (Nat.lt_of_lt_of_le (Heap.lt_size hP') hsz)
        rw [upd_ne n1, upd_ne n2]
        exact I2.hok.fresh hsz
      · obtain ⟨n, m⟩ := hn T e
        have hTc : T ≠ c' := fun z => by
          cases one with
          | false =>
            have z' : dV = .none := hd
            rw [z'] at e
            cases e
          | true =>
            obtain ⟨T', _, e', q⟩ := hd
            rw [e'] at e
            cases e
            exact Nat.lt_irrefl _ (Nat.lt_of_lt_of_le (Heap.lt_size q) (by rw [z]; exact hge))
        exact ⟨by rw [upd_ne hTc, upd_ne (hTP T e)]; exact n, m⟩
    | some cv =>
      obtain ⟨c', e, hco⟩ := ha pos cv hc
      subst e
      refine lm_tailHit (mg := X.mg) (c := c) (P := P) (ps := ps) (closure_ok hfree) I2.ok.glob (I2.mod.glob.keeps I2.bk) hcode (TB.code.keeps I2.bk) hP' ht hc bP fun ctv h' tk hx hsz => ?_
      have I1 : Inv X pins σ H { s2 with heap := h'.push (lmObj (X.env.qual ++ "<lambda>") params body scope (cloFrom X.env.cells scope.names []) dV ((X.mg "__name__").getD .none) (.ref c') ctv), toks := tk } := I2.kept fun b o e => Heap.get?_push_of_some _ (hx b o e)
      exact h h'.objs.size c' dV ((X.mg "__name__").getD .none) ctv H _ I1 (ExtN.refl H) hT (Heap.get?_push_size _ rfl) (I2.hok.fresh hsz) (nofr I2 _ hsz) (hd.keeps fun b o e => Heap.get?_push_of_some _ (hx b o e)) hn hco
  cases one with
  | false =>
    rw [arm_eval_Lambda, hp.none rfl]
    refine wpAny_bind (wpAny_pure (wpAny_bind (wpAny_holding (wpAny_pure ?_))))
    rw [makeFunction_eq]
    simp only [List.zip_nil_right, List.filterMap_nil, List.isEmpty_nil, if_true, pure_bind]
    exact tail s .none I rfl fun T e => nomatch e
  | true =>
    obtain ⟨k, p, e⟩ := hp.some rfl X.env
    rw [arm_eval_Lambda, e]
    show wpAny _ _ (evalAll [eval (.Constant (.int 0) k p) X.env] >>= _) _ _ _
    refine wpAny_bind (evalAll_cons (wpAny_Constant_int (evalAll_nil (wpAny_bind (wpAny_holding (wpAny_pure ?_))))))
    rw [makeFunction_eq]
    simp only [hp.kwo, List.zip_nil_left, List.filterMap_nil, List.isEmpty_nil, List.isEmpty_cons, Bool.false_eq_true, if_false, if_true, pure_bind]
    refine wpAny_bind (wpAny_newTextTuple ?_)
    have I2 : Inv X pins σ H { s with heap := s.heap.push { cls := .type "tuple", data := .seq #[Value.int 0 s.toks] }, toks := s.toks + 1 } := I.kept fun b o e => Heap.get?_push_of_some _ e
    refine tail _ (.ref s.heap.objs.size) I2 ⟨_, _, rfl, Heap.get?_push_size _ rfl⟩ fun T e => ?_
    cases e
    exact ⟨I.hok.fresh (Nat.le_refl _), nofr I _ (Nat.le_refl _)⟩
end
end K60
set_option maxHeartbeats 4000000
namespace K60
open PySem PySem.Spec PyProof.Rows L2 LamX
/-! ### a lambda with or without one default is called -/
/-- no cell of its own; its parameter is no name of the maker -/
structure LamS1 (N : List Str) (sc scope : Scope) : Prop where
  kind : scope.kind = .function
  co : scope.isCoroutine = false
  gen : scope.isGenerator = false
  own : ∀ y ∈ scope.names, y.2 ≠ .cell ∧ (y.2 = .local → y.1 ∉ N)
  free : ∀ y ∈ scope.names, y.2 = .free → sc.names.lookup y.1 = some .cell ∨ sc.names.lookup y.1 = some .free
def lamS1B (N : List Str) (sc scope : Scope) : Bool :=
  decide (scope.kind = .function) && !scope.isCoroutine && !scope.isGenerator && scope.names.all fun y => !decide (y.2 = .cell) && (!decide (y.2 = .local) || !decide (y.1 ∈ N)) && (!decide (y.2 = .free) || decide (sc.names.lookup y.1 = some .cell) || decide (sc.names.lookup y.1 = some .free))
theorem lamS1_by {N : List Str} {sc scope : Scope} (h : lamS1B N sc scope = true) : LamS1 N sc scope := by
  unfold lamS1B at h
  simp only [Bool.and_eq_true, Bool.or_eq_true, Bool.not_eq_true', decide_eq_true_eq, decide_eq_false_iff_not, List.all_eq_true] at h
  obtain ⟨⟨⟨h1, h2⟩, h3⟩, h4⟩ := h
  refine ⟨h1, h2, h3, fun y hy => ⟨(h4 y hy).1.1, fun e => ?_⟩, fun y hy e => ?_⟩
  · rcases (h4 y hy).1.2 with z | z
    · exact absurd e z
    · exact z
  · rcases (h4 y hy).2 with (z | z) | z
    · exact absurd e z
    · exact .inl z
    · exact .inr z
theorem LamS1.has {X : Cx} {scope : Scope} (L : LamS1 X.N X.env.scope scope) (ok : X.Ok) : ∀ y ∈ scope.names, y.2 = .free → ∃ c, X.env.cells.lookup y.1 = some c := fun y hy e => by
  rcases L.free y hy e with k | k
  · exact ok.has _ (.inl k)
  · exact ok.has _ (.inr k)
/-- what the call of such a lambda binds -/
def LamBind (q : Str) (params : Arguments) (body : Expr) (scope : Scope) (one : Bool) : Prop := ∀ (cl : List (Str × Addr)) (dV pm cv ctv : Value) (s : Shared), DflAt s.heap dV one →
  ∃ binds : List (Str × Value), (∀ y ∈ binds, scope.names.lookup y.1 = some .local) ∧ BindsTo s (lmFd q params body scope cl dV pm cv ctv) ⟨[], []⟩ binds
section
variable {X : Cx} {pins : List (Addr × Obj)} {σ : L2.St} {H HZ : Hp} {s s1 : Shared}
theorem lam_start1 {A : Around} {outer : List Env} {E : XK} {scope : Scope} {f c' : Addr} {h₁ : Heap} {tk : Nat} {binds : List (Str × Value)} (I : Inv X pins σ H s) (L : LamS1 X.N X.env.scope scope) (e0 : Env0 X.prog X.w X.K X.mg X.base A outer s1 HZ) (hd : A.handled = none)
    (un : Un (frs X.stack) [] H HZ s.heap s1.heap) (hns : h₁.Ns s1.heap.objs.size fun y => binds.reverse.lookup y) (kp : ∀ b o, s1.heap.get? b = some o → h₁.get? b = some o) :
    Inv (lamCx X A outer s1 HZ E scope f c') [] σ HZ { s1 with heap := h₁, toks := tk } := by
  have hfree := L.has I.ok
  have cm : ∀ {y c}, (cloFrom X.env.cells scope.names []).lookup y = some c → X.env.cells.lookup y = some c := fun {y c} e => by
    rcases cloFrom_mem (PySem.mem_of_lookup e) with hm | ⟨h1, h2⟩
    · cases hm
    · obtain ⟨c1, hc⟩ := hfree _ h1 rfl
      have hc : X.env.cells.lookup y = some c1 := hc
      have e2 : c = c1 := by
        rw [h2, hc] <;> rfl
      rw [e2]
      exact hc
  have look : ∀ {y}, scope.names.lookup y = some .free → ∃ c, (cloFrom X.env.cells scope.names []).lookup y = some c := fun {y} hl => by
    have hy : (y, NameKind.free) ∈ scope.names := PySem.mem_of_lookup hl
    exact mem_lookup (cloFrom_has (cells := X.env.cells) (acc := []) hy)
  have cellK : ∀ {c : Addr} {v : Option Value}, H c = none → s.heap.IsCell c v → h₁.IsCell c v := fun {c v} n ⟨o, ho, hd⟩ => by
    obtain ⟨sl, q⟩ := un.any ho n (by simp)
    exact ⟨_, kp _ _ q, hd⟩
  have noA : ∀ b : Addr, b ∉ (lamCx X A outer s1 HZ E scope f c').ex := fun b z => absurd (show b ∈ ([] : List Addr) from z) (by simp)
  refine ⟨⟨e0.mod, L.kind, rfl, rfl, Nat.le_refl _, fun y z c e1 e2 => I.ok.inj y z c (cm e1) (cm e2), fun y hy => ?_, fun y c z _ => ?_, fun _ => hd, Around.frames_deeper e0.frames, .inr ⟨rfl, rfl⟩, fun b z => absurd z (noA b), e0.bs, e0.bsz, fun b _ _ => noA b,
      fun b z => absurd z (noA b), e0.funs, e0.frf⟩,
    rfl, e0.bare, Un.kept kp, ⟨_, hns, fun i y v e1 e2 e3 => ?_⟩, fun y c e => ?_, e0.hok.fresh (Nat.le_refl _), fun y c e => ?_, fun q hq => absurd (show q ∈ ([] : List (Addr × Obj)) ++ [] from hq) (by simp), e0.hok.kept kp, I.len⟩
  · have hy : scope.names.lookup y = some .cell ∨ scope.names.lookup y = some .free := hy
    rcases hy with hy | hy
    · exact absurd rfl (L.own _ (PySem.mem_of_lookup hy)).1
    · exact look hy
  · have z : false = true := z
    cases z
  · have e3 : Vis scope y := e3
    have e1' : X.N[i]? = some y := e1
    rcases e3 with k | k | k
    · exact absurd (List.mem_of_getElem? e1') ((L.own _ (PySem.mem_of_lookup k)).2 rfl)
    · exact absurd rfl (L.own _ (PySem.mem_of_lookup k)).1
    · obtain ⟨m, hn, hl⟩ := I.loc
      have hvis : Vis X.env.scope y := (L.free _ (PySem.mem_of_lookup k) rfl).elim (fun k => .inr (.inl k)) (fun k => .inr (.inr k))
      obtain ⟨w', r, q⟩ := hl i y v e1 e2 hvis
      obtain ⟨c2, h2⟩ := look k
      refine ⟨w', r, .inr ⟨.inr k, c2, h2, ?_⟩⟩
      have c1 := cm h2
      rcases q with ⟨k', _⟩ | ⟨_, c3, e', z⟩
      · have k' : X.env.scope.names.lookup y = some .local := k'
        rcases L.free _ (PySem.mem_of_lookup k) rfl with k2 | k2 <;> rw [show X.env.scope.names.lookup y = _ from k2] at k' <;> cases k'
      · rw [c1] at e'
        cases e'
        exact cellK (I.freeC y _ c1) z
  · obtain ⟨w', z⟩ := I.cell y c (cm e)
    exact ⟨w', cellK (I.freeC y c (cm e)) z⟩
  · obtain ⟨v, o, ho, hd⟩ := I.cell y c (cm e)
    exact un.free c o ho (I.freeC y c (cm e)) (by simp)
/-- x(), in the def that got the lambda -/
theorem pe_act1 {CXg : CXT} {Eg : XK} {Ng : List Str} {qg : Str} {sg : Scope} {g f c' : Addr} {cdg pm ctv dV : Value} {params : Arguments} {body : Expr} {scope : Scope} {k i : Nat} {a : Str} {pn : List (Addr × Obj)} {xe : Value → Shared → Prop} {W : WX} {E : XK} {tb : TE} {p1 p2 : Pos} {one : Bool}
    (I : Inv X pins σ H s) (L : LamS1 X.N X.env.scope scope) (hf : s.heap.get? f = some (lmObj (X.env.qual ++ "<lambda>") params body scope (cloFrom X.env.cells scope.names []) dV pm (.ref c') ctv)) (hfn : H f = none) (hfr : f ∉ frs X.stack)
    (hd0 : DflAt s.heap dV one) (hdn : ∀ T, dV = .ref T → H T = none ∧ T ∉ frs X.stack) (hbind : LamBind (X.env.qual ++ "<lambda>") params body scope one)
    (tk : Takes ((cxOf CXg X.prog X.w X.K X.mg X.base Ng qg sg g cdg X.A X.stack s H Eg).tr pn xe) W) (hW : ∀ cls d σ' H', σ'.length = Ng.length → E cls d H' → W cls d σ' H') (hr : Room (k + 1) (X.A.deeper (envOfC qg sg s.heap.objs.size g cdg)))
    (hbody : ∀ (A : Around) (outer : List Env) (s : Shared) (H : Hp), Room k (A.deeper (lamEnv X scope s.heap.objs.size f c')) → PE (lamCx X A outer s H E scope f c') body tb)
    (hN : Ng[i]? = some a) (hv : Vis sg a) (hd : (a == ("__debug__" : Str)) = false := by decide) (hcd : (a == ("__classdict__" : Str)) = false := by decide) :
    PE ((cxOf CXg X.prog X.w X.K X.mg X.base Ng qg sg g cdg X.A X.stack s H Eg).tr pn xe) (.Call (.Name a p1) [] [] p2)
      (fun σZ HZ Q => σZ[i]? = some (some (.ref f)) ∧ HZ c' = some (CodeO c' (X.env.qual ++ "<lambda>")) ∧ tb σ HZ Q) := by
  refine ⟨fun pinsZ sZ σZ HZ Q IZ h => ?_⟩
  obtain ⟨hs, hc, ht⟩ := h
  refine wpAny_Call_Name_kw (thn ((pe_var (pos := p1) (i := i) hN hv hd hcd).run pinsZ sZ σZ HZ (fun v H1 => v = .ref f ∧ H1 = HZ) IZ ⟨.ref f, hs, rfl, rfl⟩) fun u s1 ⟨v, H1, I1, r1, q1⟩ => ?_)
  obtain ⟨ev, eH⟩ := q1
  subst ev
  rw [eH] at I1
  obtain rfl : u = Value.ref f := r1
  have stay : ∀ b o, s.heap.get? b = some o → H b = none → b ∉ frs X.stack → s1.heap.get? b = some o := fun b o e n nf => I1.base.keep b _ e n nf (fun z => nomatch (show b ∈ ([] : List Addr) from z))
  have of1 : s1.heap.get? f = some (lmObj (X.env.qual ++ "<lambda>") params body scope (cloFrom X.env.cells scope.names []) dV pm (.ref c') ctv) := stay f _ hf hfn hfr
  have d1 : DflAt s1.heap dV one := by
    cases one with
    | false => exact hd0
    | true =>
      obtain ⟨T, tk, e, q⟩ := hd0
      exact ⟨T, tk, e, stay T _ q (hdn T e).1 (hdn T e).2⟩
  obtain ⟨binds, hbl, hbt⟩ := hbind (cloFrom X.env.cells scope.names []) dV pm (.ref c') ctv s1 d1
  refine PySem.W.callWith_F0 ⟨_, _, _, _, of1⟩ ?_
  have un : Un (frs X.stack) [] H HZ s.heap s1.heap := I1.base
  obtain ⟨⟨oc, vs, t, hoc, hdc, hvc⟩, _, _⟩ := I1.hok c' _ hc
  have rc : codeAny (model X.prog X.w) (X.A.deeper (envOfC qg sg s.heap.objs.size g cdg)) (.call (.ref f) ⟨[], []⟩) (CR (L2.CX X.prog X.w) (envOfC qg sg s.heap.objs.size g cdg :: X.stack) X.prog X.w HZ s1 Q E) s1 := by
    refine PySem.W.kla_callFunE hr.depth of1 rfl L.co L.gen rfl ⟨c', oc, vs, t, rfl, hoc, hdc, hvc⟩ ?_
    refine hbt _ _ _ _ (wpAny_newFunctionEnv (fun y hy => (L.own y hy).1) hbl (fun h₁ hns hsb => ⟨I1.nolimit.fresh _ hsb, ?_⟩) L.kind)
    show codeAny _ _ (.expr body (lamEnv X scope s1.heap.objs.size f c')) _ _
    have kp : ∀ b o, s1.heap.get? b = some o → h₁.get? b = some o := fun b o e => hsb.extBut b o (Nat.ne_of_lt (Heap.lt_size e)) (Heap.get?_push_of_some _ e)
    have J : Inv (lamCx X (X.A.deeper (envOfC qg sg s.heap.objs.size g cdg)) (envOfC qg sg s.heap.objs.size g cdg :: X.stack) s1 HZ E scope f c') [] σ HZ { s1 with heap := h₁, toks := s1.toks + binds.length } :=
      lam_start1 I L I1.env0 hr.hd un hns kp
    refine PySem.W.kla_codeExpr (wpAny_mono ((hbody _ _ s1 HZ (hr.deeper _)).run [] _ _ HZ Q J ht) (fun v s' hq => ?_) fun e s' hq => hq)
    obtain ⟨w', H', J', rv, q⟩ := hq
    exact ⟨w', H', J'.os, J'.bare, J'.base, J'.hok, rv, q⟩
  have hx : Passes (L2.CX X.prog X.w) ((cxOf CXg X.prog X.w X.K X.mg X.base Ng qg sg g cdg X.A X.stack s H Eg).tr pn xe) E := fun _ σq _ _ e s' Iq c => tk e s' (XE.of_call Iq (fun cls d H' h => hW cls d σq H' Iq.len h) c)
  refine wpAny_call (codeAny_mono rc fun r s' hq => ?_)
  cases r with
  | error e => exact hx pinsZ σZ HZ s1 e s' I1 hq
  | ok fl =>
    cases fl with
    | ret u => exact I1.after hq
    | next => exact False.elim hq
    | brk => exact False.elim hq
    | cont => exact False.elim hq
end
/-- the def that calls what it got (as LamX.GivesTo, the slots of the def's own number) -/
def GivesTo1 (X : Cx) (Ng : List Str) (x : Str) (sg : Scope) (g : Addr) (cdg : Value) (bg : List Stmt) (a : Str) (q : Str) (TT : (XK → Hp → VK → Prop) → Hp → VK → Prop) : Prop :=
  ∀ (f c' : Addr) (s : Shared) (H : Hp) (Q : VK) (tl : XK → Hp → VK → Prop),
    (∀ (W : WX) (pn : List (Addr × Obj)) (xe : Value → Shared → Prop) (E : XK) (p1 p2 : Pos), Takes ((cxOf C8.CX0 X.prog X.w X.K X.mg X.base Ng x sg g cdg X.A X.stack s H C8.E0).tr pn xe) W → (∀ cls d σ' H', σ'.length = Ng.length → E cls d H' → W cls d σ' H') →
      PE ((cxOf C8.CX0 X.prog X.w X.K X.mg X.base Ng x sg g cdg X.A X.stack s H C8.E0).tr pn xe) (.Call (.Name a p1) [] [] p2) (fun σZ HZ Q => σZ[0]? = some (some (.ref f)) ∧ HZ c' = some (CodeO c' q) ∧ tl E HZ Q)) →
    H c' = some (CodeO c' q) → TT tl H Q →
    ∃ t, PSs (cxOf C8.CX0 X.prog X.w X.K X.mg X.base Ng x sg g cdg X.A X.stack s H C8.E0).nox bg t ∧ t { nx := fun _ H' => Q .non H', rt := Q } (L2.start Ng [.ref f]) H
section
variable {X : Cx}
/-- x(lambda: body) -/
theorem pe_lamcall1 {T : List (Addr × Str)} {TT : (XK → Hp → VK → Prop) → Hp → VK → Prop} {x a : Str} {g c P : Addr} {k : Nat} {pg : Arguments} {bg : List Stmt} {sg : Scope} {dG kV doc pm cdv ct oc : Value} {an od : Option Addr} {osl : Array (Option Value)} {Ng : List Str}
    {params : Arguments} {body : Expr} {scope : Scope} {t : XK → TE} {p lpos pos : Pos} {one : Bool} (hg : Gl X x) (hm : X.mg x = some (.ref g)) (hk : PySem.W.keepIn X.K (.ref g) = true)
    (lk : X.K.lookup g = some ⟨oc, od, .func (PySem.W.fnOf x x pg bg sg dG kV doc pm an cdv ct), osl⟩) (hcg : PySem.W.codeIn X.K cdv x = true) (hb : L2.Binds X.K (PySem.W.fnOf x x pg bg sg dG kV doc pm an cdv ct) [a] []) (Sg : FnScope Ng [a] sg) (hNg : Ng[0]? = some a) (hva : Vis sg a)
    (hG : GivesTo1 X Ng x sg g cdv bg a (X.env.qual ++ "<lambda>") TT)
    (TB : LamX.TabB X.base X.mg c P) (hcode : X.env.code = .ref c) (hmT : (P, X.env.qual ++ "<lambda>") ∈ T) (hu : ∀ p ∈ T, p.1 = P → p.2 = X.env.qual ++ "<lambda>") (hr : Room (k + 2) X.A) (L : LamS1 X.N X.env.scope scope) (hp : LamP params one)
    (hbind : LamBind (X.env.qual ++ "<lambda>") params body scope one)
    (hbody : ∀ (A : Around) (outer : List Env) (s : Shared) (H : Hp) (E : XK) (f c' : Addr), Room k (A.deeper (lamEnv X scope s.heap.objs.size f c')) → PE (lamCx X A outer s H E scope f c') body (t E))
    (hdb : (x == ("__debug__" : Str)) = false := by decide) (hd : (a == ("__debug__" : Str)) = false := by decide) (hcd : (a == ("__classdict__" : Str)) = false := by decide) :
    PE X (.Call (.Name x p) [.Lambda params body scope lpos] [] pos) (tLam T TT t) := by
  refine ⟨fun pins s σ H Q I h => ?_⟩
  obtain ⟨hT, h⟩ := h
  refine wpAny_Call_Name_kw (ld_glob I hg hm ?_ hdb)
  refine PySem.W.callWith_K (h₀ := X.base) I.ok.mod.kin hk ?_ (by rfl) (by rfl)
  show wpAny _ _ (spliced ((false, eval (.Lambda params body scope lpos) X.env) :: backTo pos (starEach [] X.env))) _ _ s
  refine Calls.spliced_cons (lm_make I TB hcode hmT hu hT hp (L.has I.ok) fun f c' dV pm' ctv H1 s' I1 eN T1 hf hfn hfr hdf hdn hco => ?_)
  refine Calls.spliced_nil ⟨I1.kIn, ?_⟩
  have rc : codeAny (model X.prog X.w) X.A (.call (.ref g) ⟨[.ref f], []⟩) (CR C8.CX0 X.stack X.prog X.w H1 s' Q C8.E0) s' := by
    refine run_ofS (N := Ng) (ps := [a]) (us := [.ref f]) (vs := [.ref f]) lk hcg Sg hr I1.env0 (hb s' [.ref f] I1.kIn rfl) (.cons rfl .nil) rfl fun hr' => ?_
    obtain ⟨t', ht', hq'⟩ := hG f c' s' H1 Q (fun E H' Q' => t E σ H' Q') (fun W pn xe E p1 p2 tk hW => pe_act1 (i := 0) I1 L hf hfn hfr hdf hdn hbind tk hW hr' (fun A outer s H hr2 => hbody A outer s H E f c' hr2) hNg hva hd hcd) hco (h H1 eN T1)
    exact ⟨t', ht'.nox, hq'⟩
  refine wpAny_call (codeAny_mono rc fun r s2 hq => ?_)
  cases r with
  | error e => exact (show False from hq).elim
  | ok fl =>
    cases fl with
    | ret u => exact I1.after hq
    | next => exact False.elim hq
    | brk => exact False.elim hq
    | cont => exact False.elim hq
end
end K60
set_option maxHeartbeats 4000000
namespace K60
open PySem PySem.Spec PyProof.Rows L2
/-! ### what the module's names stand for -/
structure Bt (mg : Str → Option Value) : Prop where
  isinstance : mg "isinstance" = none
  int : mg "int" = none
  bool : mg "bool" = none
  list : mg "list" = none
  tuple : mg "tuple" = none
  len : mg "len" = none
  all : mg "all" = none
  zip : mg "zip" = none
  range : mg "range" = none
  min : mg "min" = none
  sorted : mg "sorted" = none
  abs : mg "abs" = none
  repr : mg "repr" = none
  most : ∃ t, mg "MOST_BITS" = some (.int 59 t)
def HasD (K : PySem.W.Frag) (mg : Str → Option Value) (x : Str) (st : Stmt) : Prop := ∃ f fd, FunD K x x (defArgs st) (defBody st) (defScope st) [] [] f fd ∧ mg x = some (.ref f)
structure CalX (w : World) (K : PySem.W.Frag) (mg : Str → Option Value) (base : Heap) (CX : CXT) (k : Nat) (x : Str) (st : Stmt) (ps : List Str) (sp : Sp) : Prop where
  ex : ∃ f fd, FunD K x x (defArgs st) (defBody st) (defScope st) [] [] f fd ∧ FnOk PR w K mg base CX k f fd ps sp ∧ mg x = some (.ref f) ∧ L2.Binds K fd ps []
section
variable {w : World} {K : PySem.W.Frag} {mg : Str → Option Value} {base : Heap}
theorem FunD.bindsX {x : Str} {st : Stmt} {f : Addr} {fd : FuncData} {ps : List Str} (F : FunD K x x (defArgs st) (defBody st) (defScope st) [] [] f fd)
    (h : ∀ (kV doc pm : Value) (an : Option Addr) (cdv ct : Value) (us : List Value), us.length = ps.length → bindArgs (PySem.W.fnOf x x (defArgs st) (defBody st) (defScope st) .none kV doc pm an cdv ct) ⟨us, []⟩ = pure (ps.zip us)) : L2.Binds K fd ps [] := by
  obtain ⟨oc, od, dV, kV, doc, pm, an, cdv, ct, osl, rfl, lk, hcd, df, _⟩ := F.ex
  rcases df with ⟨_, e⟩ | ⟨n, _⟩
  · subst e
    exact .all (h kV doc pm an cdv ct)
  · exact absurd rfl n
theorem calx_of {CX : CXT} {k : Nat} {x : Str} {st : Stmt} {N ps : List Str} {sp : Sp} (D : HasD K mg x st) (S : FnScope N ps (defScope st))
    (hb : ∀ (kV doc pm : Value) (an : Option Addr) (cdv ct : Value) (us : List Value), us.length = ps.length → bindArgs (PySem.W.fnOf x x (defArgs st) (defBody st) (defScope st) .none kV doc pm an cdv ct) ⟨us, []⟩ = pure (ps.zip us))
    (len : ∀ vs H Q E, sp vs H Q E → vs.length = ps.length)
    (hbody : ∀ (f : Addr) (cdv : Value) (A : Around) (outer : List Env) (s : Shared) (H : Hp) (vs : List V) (Q : VK) (E : XK), Room k (A.deeper (envOfC x (defScope st) s.heap.objs.size f cdv)) → sp vs H Q E →
      ∃ t, PSs (cxOf CX PR w K mg base N x (defScope st) f cdv A outer s H E) (defBody st) t ∧ t { nx := fun _ H' => Q .non H', rt := Q } (start N vs) H) : CalX w K mg base CX (k + 1) x st ps sp := by
  obtain ⟨f, fd, F, hm⟩ := D
  exact ⟨f, fd, F, F.ok S len fun cdv A outer s H vs Q E hr h => hbody f cdv A outer s H vs Q E hr h, hm, FunD.bindsX F hb⟩
end
section
variable {X : Cx} {CX : CXT} {k j : Nat} {x : Str} {st : Stmt} {ps : List Str} {sp : Sp} {E : XK} {p pos : Pos} {e : Expr} {es : List Expr} {t : TA} {w : World} {K : PySem.W.Frag} {mg : Str → Option Value} {base : Heap}
theorem pe_cx (c : CalX w K mg base CX k x st ps sp) (hr : Room j X.A) (hk : k ≤ j) (hx : Passes CX X E) (ha : PA X (e :: es) t) (hg : Gl X x := by rfl) (h1 : X.prog = PR := by rfl) (h2 : X.w = w := by rfl) (h3 : X.K = K := by rfl) (h4 : X.mg = mg := by rfl) (h5 : X.base = base := by rfl)
    (hdb : (x == ("__debug__" : Str)) = false := by decide) (he : starEach (e :: es) X.env = (false, eval e X.env) :: starEach es X.env := by rfl) (hpl : (backTo pos (starEach es X.env)).any (·.1) = false := by rfl) :
    PE X (.Call (.Name x p) (e :: es) [] pos) (tCall sp [] E t) := by
  subst h2 h3 h4 h5
  obtain ⟨f, fd, F, ok, hm, hb⟩ := c.ex
  have ok' : FnOk X.prog X.w X.K X.mg X.base CX k f fd ps sp := by rw [h1]; exact ok
  exact pe_call ok' (hr.mono hk) hg hm F.kp hb .nil hx ha hdb he hpl
theorem pi_or {tg iter : Expr} {a b : TI} (h1 : PI X tg iter a) (h2 : PI X tg iter b) : PI X tg iter (fun σ H R => a σ H R ∨ b σ H R) :=
  ⟨fun pins s σ H R I h => h.elim (fun h => h1.run pins s σ H R I h) fun h => h2.run pins s σ H R I h⟩
theorem pe_either {e : Expr} {a b : TE} (h1 : PE X e a) (h2 : PE X e b) : PE X e (fun σ H Q => a σ H Q ∨ b σ H Q) :=
  ⟨fun pins s σ H Q I h => h.elim (fun h => h1.run pins s σ H Q I h) fun h => h2.run pins s σ H Q I h⟩
end
/-! ### plain values, their types -/
inductive Pl (K : PySem.W.Frag) (H : Hp) : V → Prop where
  | non : Pl K H .non
  | bl (b : Bool) : Pl K H (.bl b)
  | int (i : Int) : Pl K H (.int i)
  | str (x : Str) : Pl K H (.str x)
  | lst (a : Addr) (xs : List V) (e : SqL K H a xs) : Pl K H (.ref a)
  | tup (a : Addr) (xs : List V) (e : SqT K H a xs) : Pl K H (.ref a)
  | dk (a : Addr) (kvs : List (Key × V)) (e : H a = some (.dK kvs)) : Pl K H (.ref a)
theorem Same.seqT {K : PySem.W.Frag} {H H' : Hp} {a : Addr} {xs : List V} (e : Same H H') (h : SqT K H a xs) : SqT K H' a xs := by
  rcases h with h | h
  · rcases h with h | ⟨o, h⟩
    · exact .inl (.inl (e _ _ h))
    · exact .inl (.inr ⟨o, e _ _ h⟩)
  · exact .inr h
theorem Pl.same {K : PySem.W.Frag} {H H' : Hp} {v : V} (p : Pl K H v) (e : Same H H') : Pl K H' v := by
  cases p with
  | non => exact .non
  | bl b => exact .bl b
  | int i => exact .int i
  | str x => exact .str x
  | lst a xs q => exact .lst a xs (Same.seq e q)
  | tup a xs q => exact .tup a xs (Same.seqT e q)
  | dk a kvs q => exact .dk a kvs (e _ _ q)
theorem tyL {K : PySem.W.Frag} {H : Hp} {a : Addr} {xs : List V} (e : SqL K H a xs) : TyX K H (.ref a) (.type "list") := by
  rcases e with (h | ⟨o, h⟩) | ⟨o, its, n, h1, h2, _⟩
  · exact .base (.lst h)
  · exact .base (.frz h)
  · exact .kList h1 h2
theorem tyT {K : PySem.W.Frag} {H : Hp} {a : Addr} {xs : List V} (e : SqT K H a xs) : TyX K H (.ref a) (.type "tuple") := by
  rcases e with (h | ⟨o, h⟩) | ⟨o, its, n, h1, h2, _⟩
  · exact .base (.tup h)
  · exact .fTuple h
  · exact .kTuple h1 h2
def isI : V → Bool
  | .int _ => true
  | _ => false
def isB : V → Bool
  | .bl _ => true
  | _ => false
/-- an int from 0 to 1 -/
def inB : V → Bool
  | .int i => decide (0 ≤ i) && decide (i ≤ 1)
  | _ => false
/-- isinstance(x, int), isinstance(x, bool) -/
theorem Pl.int_ {K : PySem.W.Frag} {H : Hp} {v : V} (p : Pl K H v) : ∃ t, TyX K H v t ∧ PySem.W.kitOne K t (.type "int") = some (isI v || isB v) ∧ PySem.W.kitOne K t (.type "bool") = some (isB v) := by
  cases p with
  | non => exact ⟨_, .base .non, kit_ty (by decide +kernel), kit_ty (by decide +kernel)⟩
  | bl b => exact ⟨_, .base (.bl b), kit_ty (by show kitB "bool" "int" = some true; decide +kernel), kit_ty (by show kitB "bool" "bool" = some true; decide +kernel)⟩
  | int i => exact ⟨_, .base (.int i), kit_ty (by show kitB "int" "int" = some true; decide +kernel), kit_ty (by show kitB "int" "bool" = some false; decide +kernel)⟩
  | str x => exact ⟨_, .base (.str x), kit_ty (by show kitB "str" "int" = some false; decide +kernel), kit_ty (by show kitB "str" "bool" = some false; decide +kernel)⟩
  | lst a xs e => exact ⟨_, tyL e, kit_ty (by show kitB "list" "int" = some false; decide +kernel), kit_ty (by show kitB "list" "bool" = some false; decide +kernel)⟩
  | tup a xs e => exact ⟨_, tyT e, kit_ty (by show kitB "tuple" "int" = some false; decide +kernel), kit_ty (by show kitB "tuple" "bool" = some false; decide +kernel)⟩
  | dk a kvs e => exact ⟨_, .base (.dK e), kit_ty (by show kitB "dict" "int" = some false; decide +kernel), kit_ty (by show kitB "dict" "bool" = some false; decide +kernel)⟩
/-- a list or a tuple of xs -/
abbrev Seq (K : PySem.W.Frag) (H : Hp) (a : Addr) (xs : List V) : Prop := SqL K H a xs ∨ SqT K H a xs
theorem Seq.same {K : PySem.W.Frag} {H H' : Hp} {a : Addr} {xs : List V} (h : Seq K H a xs) (e : Same H H') : Seq K H' a xs := h.imp (Same.seq e) (Same.seqT e)
theorem kitT {K : PySem.W.Frag} {a b c : String} {r q : Bool} (h1 : kitB a b = some r) (h2 : kitB a c = some q) : PySem.W.kitAny K (.type a) [.type b, .type c] = some (r || q) := by
  refine kitAny_cons (kit_ty h1) (fun e => ?_) (fun e => by rw [e]; rfl)
  subst e
  refine kitAny_cons (kit_ty h2) (fun e => ?_) (fun e => by rw [e]; rfl)
  rw [e]
  rfl
theorem seq_ty {K : PySem.W.Frag} {H : Hp} {a : Addr} {xs : List V} (h : Seq K H a xs) : ∃ t, TyX K H (.ref a) t ∧ PySem.W.kitAny K t [.type "list", .type "tuple"] = some true := by
  rcases h with h | h
  · exact ⟨_, tyL h, kitT (r := true) (q := false) (by decide +kernel) (by decide +kernel)⟩
  · exact ⟨_, tyT h, kitT (r := false) (q := true) (by decide +kernel) (by decide +kernel)⟩
/-- neither a list nor a tuple -/
inductive NoSeq (H : Hp) : V → Prop where
  | non : NoSeq H .non
  | int (i : Int) : NoSeq H (.int i)
  | str (x : Str) : NoSeq H (.str x)
  | dk (a : Addr) (kvs : List (Key × V)) (e : H a = some (.dK kvs)) : NoSeq H (.ref a)
theorem NoSeq.ty {K : PySem.W.Frag} {H : Hp} {v : V} (h : NoSeq H v) : ∃ t, TyX K H v t ∧ PySem.W.kitAny K t [.type "list", .type "tuple"] = some false := by
  cases h with
  | non => exact ⟨_, .base .non, kitT (r := false) (q := false) (by decide +kernel) (by decide +kernel)⟩
  | int i => exact ⟨_, .base (.int i), kitT (r := false) (q := false) (by decide +kernel) (by decide +kernel)⟩
  | str x => exact ⟨_, .base (.str x), kitT (r := false) (q := false) (by decide +kernel) (by decide +kernel)⟩
  | dk a kvs e => exact ⟨_, .base (.dK e), kitT (r := false) (q := false) (by decide +kernel) (by decide +kernel)⟩
theorem NoSeq.same {H H' : Hp} {v : V} (h : NoSeq H v) (e : Same H H') : NoSeq H' v := by
  cases h with
  | non => exact .non
  | int i => exact .int i
  | str x => exact .str x
  | dk a kvs q => exact .dk a kvs (e _ _ q)
/-! ### blocks -/
def blkB (N : List Str) (sc scope : Scope) (own : List (Str × Nat)) : Bool :=
  decide (scope.kind = .function) && scope.names.all (fun y => decide (scope.names.lookup y.1 = some y.2)) && own.all (fun p => decide (N[p.2]? = some p.1)) &&
    scope.names.all (fun y => !decide (y.2 = .free) || decide (sc.names.lookup y.1 = some .cell) || decide (sc.names.lookup y.1 = some .free)) && scope.names.all (fun y => !(decide (y.2 = .local) || decide (y.2 = .cell)) || decide (y.1 ∈ own.map (·.1)) || !decide (y.1 ∈ N))
theorem blk_by {N : List Str} {sc scope : Scope} {own : List (Str × Nat)} (h : blkB N sc scope own = true) : BlkOk N sc scope own := by
  unfold blkB at h
  simp only [Bool.and_eq_true, Bool.or_eq_true, Bool.not_eq_true', decide_eq_true_eq, decide_eq_false_iff_not, List.all_eq_true, Bool.or_eq_false_iff] at h
  obtain ⟨⟨⟨⟨h1, h2⟩, h3⟩, h4⟩, h5⟩ := h
  refine ⟨h1, h2, h3, fun y hy e => ?_, fun y hy e => ?_⟩
  · rcases h4 y hy with (z | z) | z
    · exact absurd e z
    · exact .inl z
    · exact .inr z
  · rcases h5 y hy with (z | z) | z
    · exact absurd e (fun q => q.elim z.1 z.2)
    · exact .inl z
    · exact .inr z
/-! ### comprehensions -/
theorem same_to {H1 H : Hp} {D : Addr} {o : HO} (hD : H1 D = none) (s : Same H1 H) : Same H1 (upd H D o) := fun b x e => by
  rw [upd_ne (ne_of_none e hD)]
  exact s b x e
section
variable {J : It} {n : Nat} {G : Hp → Prop} {Y : Nat → Hp → V → Hp → Prop}
/-- each item answers R; nothing that stood is written -/
theorem lc_rel (w : Walk J n G Y) {g : TG} {te : TE} {vs : List Nat} {σ : L2.St} {H1 : Hp} {D : Addr} {Qd : Hp → Prop} (R : Nat → V → Hp → Prop) (Rm : ∀ i v H H', Same H H' → R i v H → R i v H') (hD : H1 D = none) (hn : n < sizeLine) (hG : ∀ H, Same H1 H → G H)
    (hR : ∀ (i : Nat) (v : V) (H : Hp) (o : HO), Same H1 H → R i v H → (∃ l, H D = some (.lst l)) → R i v (upd H D o))
    (hs : ∀ i x H H', i < n → Same H1 H → Y i H x H' → ∀ Q' : VK, (∀ y H4, Same H H4 → R i y H4 → Q' y H4) → g x (wipe σ vs) H' fun σ2 H2 => wipe σ2 vs = wipe σ vs ∧ te σ2 H2 Q')
    (hd : ∀ H ys, Same H1 H → H D = some (.lst ys) → ys.length = n → (∀ i y, ys[i]? = some y → R i y H) → Qd H) :
    ∃ W : Nat → Nat → Hp → Prop, (∃ m, W 0 m (upd H1 D (.lst []))) ∧ ∀ i m H, W i m H →
      (J.stop i H ∧ Qd H) ∨ (J.go i H ∧ ∃ Nx : Hp → Prop, (∀ H', Nx H' → ∃ m', m' < m ∧ W (i + 1) m' H') ∧ ∀ x H', J.yld i H x H' → g x (wipe σ vs) H' fun σ2 H2 => wipe σ2 vs = wipe σ vs ∧ tYes σ2 H2 fun b H3 =>
        if b = true then te σ2 H3 fun y H4 => ∃ acc, H4 D = some (.lst acc) ∧ acc.length < sizeLine ∧ Nx (upd H4 D (.lst (acc ++ [y]))) else Nx H3) := by
  refine lc_it w (fun i H => Same H1 H ∧ ∃ ys, H D = some (.lst ys) ∧ ys.length = i ∧ ∀ j y, ys[j]? = some y → R j y H) ⟨same_to hD (Same.refl _), [], upd_same, rfl, fun j y e => by simp at e⟩ (fun i H _ p => hG H p.1) (fun i x H H' hi p y => ?_) (fun H p => ?_)
  · obtain ⟨sm, ys, e, l, r⟩ := p
    refine hs i x H H' hi sm y (fun y H4 => ∃ acc, H4 D = some (.lst acc) ∧ acc.length < sizeLine ∧ _) fun y H4 s4 r4 => ?_
    refine ⟨ys, s4 _ _ e, by omega, same_to hD (sm.trans s4), ys ++ [y], upd_same, by simp [l], fun j z ez => ?_⟩
    rw [List.getElem?_append] at ez
    split at ez
    · exact hR _ _ _ _ (sm.trans s4) (Rm _ _ _ _ s4 (r j z ez)) ⟨ys, s4 _ _ e⟩
    · rename_i h
      have hj : j = i := by
        by_cases q : j = i
        · exact q
        · rw [List.getElem?_eq_none (by simp; omega)] at ez
          cases ez
      subst hj
      rw [l, Nat.sub_self] at ez
      cases Option.some.inj ez
      exact hR _ _ _ _ (sm.trans s4) r4 ⟨ys, s4 _ _ e⟩
  · obtain ⟨sm, ys, e, l, r⟩ := p
    exact hd H ys sm e l r
/-- the items are told -/
theorem lc_map (w : Walk J n G Y) {g : TG} {te : TE} {vs : List Nat} {σ : L2.St} {H1 : Hp} {D : Addr} {Qd : Hp → Prop} (f : Nat → V) (hD : H1 D = none) (hn : n < sizeLine) (hG : ∀ H, Same H1 H → G H)
    (hs : ∀ i x H H', i < n → Same H1 H → Y i H x H' → ∀ Q' : VK, (∀ H4, Same H H4 → Q' (f i) H4) → g x (wipe σ vs) H' fun σ2 H2 => wipe σ2 vs = wipe σ vs ∧ te σ2 H2 Q')
    (hd : ∀ H, Same H1 H → H D = some (.lst ((List.range n).map f)) → Qd H) :
    ∃ W : Nat → Nat → Hp → Prop, (∃ m, W 0 m (upd H1 D (.lst []))) ∧ ∀ i m H, W i m H →
      (J.stop i H ∧ Qd H) ∨ (J.go i H ∧ ∃ Nx : Hp → Prop, (∀ H', Nx H' → ∃ m', m' < m ∧ W (i + 1) m' H') ∧ ∀ x H', J.yld i H x H' → g x (wipe σ vs) H' fun σ2 H2 => wipe σ2 vs = wipe σ vs ∧ tYes σ2 H2 fun b H3 =>
        if b = true then te σ2 H3 fun y H4 => ∃ acc, H4 D = some (.lst acc) ∧ acc.length < sizeLine ∧ Nx (upd H4 D (.lst (acc ++ [y]))) else Nx H3) := by
  refine lc_rel w (fun i v _ => v = f i) (fun _ _ _ _ _ e => e) hD hn hG (fun _ _ _ _ _ e _ => e) (fun i x H H' hi sm y Q' k => hs i x H H' hi sm y Q' fun H4 s4 => k _ H4 s4 rfl) fun H ys sm e l r => hd H sm ?_
  have : ys = (List.range n).map f := by
    apply List.ext_getElem?
    intro i
    by_cases hi : i < n
    · rw [List.getElem?_map, List.getElem?_range hi]
      have h1 : i < ys.length := by omega
      rw [List.getElem?_eq_getElem h1]
      exact congrArg some (r i _ (List.getElem?_eq_getElem h1))
    · rw [List.getElem?_eq_none (by omega), List.getElem?_eq_none (by simp; omega)]
  rw [← this]
  exact e
/-- a filter: the item at i, where c i -/
theorem lc_filt (w : Walk J n G Y) {g : TG} {tt : TT} {te : TE} {vs : List Nat} {σ : L2.St} {H1 : Hp} {D : Addr} {Qd : Hp → Prop} (c : Nat → Bool) (f : Nat → V) (hD : H1 D = none) (hn : n < sizeLine) (hG : ∀ H, Same H1 H → G H)
    (hs : ∀ i x H H', i < n → Same H1 H → Y i H x H' → ∀ (Qa : VK) (Qn : Hp → Prop), (c i = true → ∀ H4, Same H H4 → Qa (f i) H4) → (c i = false → ∀ H4, Same H H4 → Qn H4) →
      g x (wipe σ vs) H' fun σ2 H2 => wipe σ2 vs = wipe σ vs ∧ tt σ2 H2 fun b H3 => if b = true then te σ2 H3 Qa else Qn H3)
    (hd : ∀ H, Same H1 H → H D = some (.lst (((List.range n).filter c).map f)) → Qd H) :
    ∃ W : Nat → Nat → Hp → Prop, (∃ m, W 0 m (upd H1 D (.lst []))) ∧ ∀ i m H, W i m H →
      (J.stop i H ∧ Qd H) ∨ (J.go i H ∧ ∃ Nx : Hp → Prop, (∀ H', Nx H' → ∃ m', m' < m ∧ W (i + 1) m' H') ∧ ∀ x H', J.yld i H x H' → g x (wipe σ vs) H' fun σ2 H2 => wipe σ2 vs = wipe σ vs ∧ tt σ2 H2 fun b H3 =>
        if b = true then te σ2 H3 fun y H4 => ∃ acc, H4 D = some (.lst acc) ∧ acc.length < sizeLine ∧ Nx (upd H4 D (.lst (acc ++ [y]))) else Nx H3) := by
  refine lc_it w (fun i H => Same H1 H ∧ H D = some (.lst (((List.range i).filter c).map f))) ⟨same_to hD (Same.refl _), upd_same⟩ (fun i H _ p => hG H p.1) (fun i x H H' hi p y => ?_) (fun H p => hd H p.1 p.2)
  obtain ⟨sm, e⟩ := p
  refine hs i x H H' hi sm y _ _ (fun hc H4 s4 => ⟨_, s4 _ _ e, ?_, same_to hD (sm.trans s4), ?_⟩) (fun hc H4 s4 => ⟨sm.trans s4, ?_⟩)
  · rw [List.length_map]
    exact Nat.lt_of_le_of_lt (Nat.le_trans (List.length_filter_le _ _) (by rw [List.length_range]; omega)) hn
  · rw [upd_same, List.range_succ, List.filter_append, List.filter_cons, hc]
    simp
  · rw [List.range_succ, List.filter_append, List.filter_cons, hc]
    simpa using s4 _ _ e
end
end K60
set_option maxHeartbeats 4000000
namespace K60
open PySem PySem.Spec PyProof.Rows L2
/-! ### what the defs compute, in plain Lean -/
/-- one + other, modulo 2 -/
def xb (x y : Int) : Int := (x + y) % 2
def gateN (n h : Nat) : List Int := List.replicate h 0 ++ (List.range (n - h + 1)).map fun p => if Builtin.bitAnd ((n - h : Nat) : Int) ((p : Nat) : Int) = ((p : Nat) : Int) then 1 else 0
def mixF (p f : List Int) (b : Int) : List Int := List.zipWith xb ((if b = 1 then f else p) ++ [0]) (0 :: (if b = 1 then p else f))
def freeC (p m : List Int) (b : Int) : List Int := if b = 1 then (List.zipWith xb m (0 :: p)).take p.length else (List.zipWith xb m (p ++ [0])).drop 1
def freeF (p m : List Int) (b : Int) : Option (List Int) := if mixF p (freeC p m b) b = m then some (freeC p m b) else none
def madeF (n : Nat) : List (List Int) := (List.range (min 1 n + 1)).foldl (fun found h => found ++ found.map fun each => List.zipWith xb (gateN n h) each) [List.replicate (n + 1) 0]
def choicesF (p : List Int) (b : Int) : List (List Int) := srt ((madeF p.length).filterMap fun m => freeF p m b)
theorem xb_bit (x y : Int) : xb x y = 0 ∨ xb x y = 1 := by unfold xb; omega
theorem gateN_length {n h : Nat} (hh : h ≤ n) : (gateN n h).length = n + 1 := by
  unfold gateN
  simp
  omega
theorem gateN_bits (n h : Nat) : Bits (gateN n h) := fun x hx => by
  unfold gateN at hx
  rcases List.mem_append.mp hx with hx | hx
  · exact .inl (List.eq_of_mem_replicate hx)
  · obtain ⟨p, _, rfl⟩ := List.mem_map.mp hx
    by_cases q : Builtin.bitAnd ((n - h : Nat) : Int) ((p : Nat) : Int) = ((p : Nat) : Int)
    · rw [if_pos q]; exact .inr rfl
    · rw [if_neg q]; exact .inl rfl
theorem zip_bits : ∀ (a b : List Int), Bits (List.zipWith xb a b)
  | [], _ => fun x hx => by simp at hx
  | _ :: _, [] => fun x hx => by simp at hx
  | y :: a, z :: b => fun x hx => by
    rw [List.zipWith_cons_cons] at hx
    rcases List.mem_cons.mp hx with e | hx
    · rw [e]; exact xb_bit y z
    · exact zip_bits a b x hx
theorem mixF_bits (p f : List Int) (b : Int) : Bits (mixF p f b) := zip_bits _ _
theorem mixF_length {p f : List Int} (h : f.length = p.length) (b : Int) : (mixF p f b).length = p.length + 1 := by
  unfold mixF
  by_cases e : b = 1 <;> simp [e, h]
theorem freeC_bits (p m : List Int) (b : Int) : Bits (freeC p m b) := fun x hx => by
  unfold freeC at hx
  by_cases e : b = 1
  · rw [if_pos e] at hx
    exact zip_bits _ _ x (List.mem_of_mem_take hx)
  · rw [if_neg e] at hx
    exact zip_bits _ _ x (List.mem_of_mem_drop hx)
theorem freeC_length {p m : List Int} (h : m.length = p.length + 1) (b : Int) : (freeC p m b).length = p.length := by
  unfold freeC
  by_cases e : b = 1 <;> simp [e, h]
theorem made_step (n h : Nat) (hh : h ≤ n) (l : List (List Int)) (hl : ∀ x ∈ l, Bits x ∧ x.length = n + 1) : ∀ x ∈ (l ++ l.map fun each => List.zipWith xb (gateN n h) each), Bits x ∧ x.length = n + 1 := fun x hx => by
  rcases List.mem_append.mp hx with q | q
  · exact hl x q
  · obtain ⟨y, hy, rfl⟩ := List.mem_map.mp q
    exact ⟨zip_bits _ _, by rw [List.length_zipWith, gateN_length hh, (hl y hy).2, Nat.min_self]⟩
theorem madeF_ok (n : Nat) : (∀ x ∈ madeF n, Bits x ∧ x.length = n + 1) ∧ (madeF n).length ≤ 4 := by
  have h0 : ∀ x ∈ [List.replicate (n + 1) (0 : Int)], Bits x ∧ x.length = n + 1 := fun x hx => by
    obtain rfl := List.mem_singleton.mp hx
    exact ⟨fun z hz => .inl (List.eq_of_mem_replicate hz), List.length_replicate⟩
  by_cases e : n = 0
  · subst e
    exact ⟨made_step 0 0 (Nat.le_refl _) _ h0, by decide⟩
  · have e1 : min 1 n = 1 := by omega
    have : madeF n = ([List.replicate (n + 1) (0 : Int)] ++ [List.replicate (n + 1) (0 : Int)].map fun each => List.zipWith xb (gateN n 0) each) ++ ([List.replicate (n + 1) (0 : Int)] ++ [List.replicate (n + 1) (0 : Int)].map fun each => List.zipWith xb (gateN n 0) each).map fun each => List.zipWith xb (gateN n 1) each := by
      unfold madeF
      rw [e1]
      rfl
    rw [this]
    exact ⟨made_step n 1 (by omega) _ (made_step n 0 (Nat.zero_le _) _ h0), by simp⟩
end K60
set_option maxHeartbeats 4000000
namespace K60
open PySem PySem.Spec PyProof.Rows L2
section
variable {w : World} {K : PySem.W.Frag} {mg : Str → Option Value} {base : Heap}
/-! ### checks -/
theorem scIsInt : FnScope ["value"] ["value"] (defScope sIsInt) := ⟨rfl, rfl, rfl, by decide +kernel, rfl, by decide +kernel, by decide +kernel⟩
def spIsInt (K : PySem.W.Frag) : Sp := fun vs H Q _ => ∃ v, vs = [v] ∧ Pl K H v ∧ Q (.bl (isI v)) H
theorem x_isInt (B : Bt mg) (D : HasD K mg "is_integer" sIsInt) : CalX w K mg base (L2.CX PR w) 1 "is_integer" sIsInt ["value"] (spIsInt K) := by
  refine calx_of D scIsInt (fun kV doc pm an cdv ct us h => by match us, h with | [u], _ => rfl) (fun vs H Q E h => ?_) (fun f cdv A outer s H vs Q E hr h => ?_)
  · obtain ⟨v, rfl, _⟩ := h; rfl
  · obtain ⟨v, rfl, p, q⟩ := h
    refine ⟨_, pss_one (ps_ret (pe_and (pe_callB call_isi (by rfl) B.isinstance boot_isinstance (pa_cons (pv 0) (pa_cons (pe_bltn (v := .ty "int") (by rfl) B.int boot_int rfl) pa_nil)))
      (pe_one (pe_not (pe_callB call_isi (by rfl) B.isinstance boot_isinstance (pa_cons (pv 0) (pa_cons (pe_bltn (v := .ty "bool") (by rfl) B.bool boot_bool rfl) pa_nil))))))), ?_⟩
    obtain ⟨t, ty, k1, k2⟩ := p.int_
    refine ⟨v, rfl, v, .ty "int", t, _, _, rfl, .ty _, ty, k1, _, rfl, ite2 (fun e => ?_) (fun e => ?_)⟩
    · refine ⟨v, rfl, v, .ty "bool", t, _, _, rfl, .ty _, ty, k2, _, rfl, ?_⟩
      have : (!isB v) = isI v := by cases v <;> simp [isI, isB] at e ⊢
      rw [this]
      exact q
    · have : isI v = false := by cases v <;> simp [isI, isB] at e ⊢
      rw [this] at q
      exact q
theorem scWithin : FnScope ["value", "least", "most"] ["value", "least", "most"] (defScope sWithin) := ⟨rfl, rfl, rfl, by decide +kernel, rfl, by decide +kernel, by decide +kernel⟩
def spWithin (K : PySem.W.Frag) : Sp := fun vs H Q _ => ∃ v, vs = [v, .int 0, .int 1] ∧ Pl K H v ∧ Q (.bl (inB v)) H
theorem x_within (B : Bt mg) (D1 : HasD K mg "is_integer" sIsInt) (D : HasD K mg "is_within" sWithin) : CalX w K mg base (L2.CX PR w) 2 "is_within" sWithin ["value", "least", "most"] (spWithin K) := by
  refine calx_of D scWithin (fun kV doc pm an cdv ct us h => by match us, h with | [u1, u2, u3], _ => rfl) (fun vs H Q E h => ?_) (fun f cdv A outer s H vs Q E hr h => ?_)
  · obtain ⟨v, rfl, _⟩ := h; rfl
  · obtain ⟨v, rfl, p, q⟩ := h
    refine ⟨_, pss_cons (ps_if (pt_not (pt_val (pe_cx (x_isInt B D1) hr (by decide) passL (pa_cons (pv 0) pa_nil)))) (pss_one (ps_ret pe_bl)) pss_nil)
      (pss_one (ps_ret (pe_and (pe_or (pe_cmpR op_isN (pv 1) pe_non (nomark _)) (pe_one (pe_cmpR op_le (pv 1) (pv 0) (nomark _))))
        (pe_one (pe_or (pe_cmpR op_isN (pv 2) pe_non (nomark _)) (pe_one (pe_cmpR op_le (pv 0) (pv 2) (nomark _)))))))), ?_⟩
    refine ⟨v, rfl, v, rfl, p, _, rfl, ite2 (fun e => ?_) (fun e => ?_)⟩
    · have : inB v = false := by cases v <;> simp [isI, inB] at e ⊢
      rw [this] at q
      exact q
    · cases v with
      | int i =>
        refine ⟨.int 0, rfl, rfl, false, rfl, iteF ?_⟩
        refine ⟨.int 0, rfl, .int i, rfl, 0, i, rfl, rfl, _, rfl, ite2 (fun e1 => ?_) (fun e1 => ?_)⟩
        · refine ⟨.int 1, rfl, rfl, false, rfl, iteF ?_⟩
          refine ⟨.int i, rfl, .int 1, rfl, i, 1, rfl, rfl, ?_⟩
          have : inB (.int i) = decide (i ≤ 1) := by
            show (decide (0 ≤ i) && decide (i ≤ 1)) = _
            rw [e1]; rfl
          rw [this] at q
          exact q
        · have : inB (.int i) = false := by
            show (decide (0 ≤ i) && decide (i ≤ 1)) = _
            rw [show decide (0 ≤ i) = false from by simpa using e1]; rfl
          rw [this] at q
          exact q
      | _ => exact absurd (by simp [isI]) e
theorem scIsList : FnScope ["value"] ["value"] (defScope sIsList) := ⟨rfl, rfl, rfl, by decide +kernel, rfl, by decide +kernel, by decide +kernel⟩
def spIsList (K : PySem.W.Frag) : Sp := fun vs H Q _ => ∃ v b, vs = [v] ∧ ((NoSeq H v ∧ b = false) ∨ ((∃ a xs, v = .ref a ∧ Seq K H a xs) ∧ b = true)) ∧ ∀ H', Same H H' → Q (.bl b) H'
theorem x_isList (B : Bt mg) (D : HasD K mg "is_list" sIsList) : CalX w K mg base (L2.CX PR w) 1 "is_list" sIsList ["value"] (spIsList K) := by
  refine calx_of D scIsList (fun kV doc pm an cdv ct us h => by match us, h with | [u], _ => rfl) (fun vs H Q E h => ?_) (fun f cdv A outer s H vs Q E hr h => ?_)
  · obtain ⟨v, b, rfl, _⟩ := h; rfl
  · obtain ⟨v, b, rfl, p, q⟩ := h
    refine ⟨_, pss_one (ps_ret (pe_callB call_isiT (by rfl) B.isinstance boot_isinstance (pa_cons (pv 0) (pa_cons (pe_tup (pa_cons (pe_bltn (v := .ty "list") (by rfl) B.list boot_list rfl) (pa_cons (pe_bltn (v := .ty "tuple") (by rfl) B.tuple boot_tuple rfl) pa_nil))) pa_nil)))), ?_⟩
    refine ⟨v, rfl, by decide, fun a na => ?_⟩
    have sm : Same H (upd H a (.tup [.ty "list", .ty "tuple"])) := same_upd na
    have go : ∃ t, TyX K (upd H a (.tup [.ty "list", .ty "tuple"])) v t ∧ PySem.W.kitAny K t [.type "list", .type "tuple"] = some b := by
      rcases p with ⟨p, rfl⟩ | ⟨⟨c, xs, rfl, p⟩, rfl⟩
      · exact (p.same sm).ty
      · exact seq_ty (p.same sm)
    obtain ⟨t, ty, k⟩ := go
    exact ⟨v, a, [.ty "list", .ty "tuple"], t, [.type "list", .type "tuple"], b, rfl, upd_same, .cons (.ty _) (.cons (.ty _) .nil), ty, k, q _ sm⟩
/-! ### what raises -/
/-- BadNumber with the part is let out -/
def Bad (C : Addr) (part : Str) (H : Hp) (E : XK) : Prop := ∀ H' d, Same H H' → H' d = some (.xd [("part", .str part)]) → E (.ref C) (some d) H'
theorem Bad.same {C : Addr} {part : Str} {H H1 : Hp} {E : XK} (b : Bad C part H E) (s : Same H H1) : Bad C part H1 E := fun H' d s' e => b H' d (s.trans s') e
theorem scNeedNum : FnScope ["value", "part", "least", "most"] ["value", "part", "least", "most"] (defScope sNeedNum) := ⟨rfl, rfl, rfl, by decide +kernel, rfl, by decide +kernel, by decide +kernel⟩
def spNeedNum (K : PySem.W.Frag) (C : Addr) : Sp := fun vs H Q E => ∃ v part, vs = [v, .str part, .int 0, .int 1] ∧ Pl K H v ∧ (inB v = true → Q .non H) ∧ (inB v = false → Bad C part H E)
theorem x_needNum {C fI : Addr} (T : NumTxt K mg C fI) (B : Bt mg) (D1 : HasD K mg "is_integer" sIsInt) (D2 : HasD K mg "is_within" sWithin) (D : HasD K mg "need_number" sNeedNum) :
    CalX w K mg base (L2.CX PR w) 3 "need_number" sNeedNum ["value", "part", "least", "most"] (spNeedNum K C) := by
  refine calx_of D scNeedNum (fun kV doc pm an cdv ct us h => by match us, h with | [u1, u2, u3, u4], _ => rfl) (fun vs H Q E h => ?_) (fun f cdv A outer s H vs Q E hr h => ?_)
  · obtain ⟨v, part, rfl, _⟩ := h; rfl
  · obtain ⟨v, part, rfl, p, q, qe⟩ := h
    refine ⟨_, pss_one (ps_if (pt_not (pt_val (pe_cx (x_within B D1 D2) hr (by decide) passL (pa_cons (pv 0) (pa_cons (pv 2) (pa_cons (pv 3) pa_nil))))))
      (pss_one (ps_raiseNum rfl rfl T hr (takes_of rfl rfl rfl rfl) (pa_cons (pv 1) pa_nil))) pss_nil), ?_⟩
    refine ⟨v, rfl, .int 0, rfl, .int 1, rfl, v, rfl, p, _, rfl, ite2 (fun e => ?_) (fun e => ?_)⟩
    · refine ⟨.str part, rfl, .str part, rfl, fun d nd => qe ?_ _ d (same_upd nd) upd_same⟩
      simpa using e
    · exact q (by simpa using e)
/-! ### bits -/
theorem scOddIn : FnScope ["many", "chosen"] ["many", "chosen"] (defScope sOddIn) := ⟨rfl, rfl, rfl, by decide +kernel, rfl, by decide +kernel, by decide +kernel⟩
def spOddIn : Sp := fun vs H Q _ => ∃ i j, vs = [.int i, .int j] ∧ Q (.bl (decide (Builtin.bitAnd i j = j))) H
theorem x_oddIn (D : HasD K mg "is_odd_in" sOddIn) : CalX w K mg base (L2.CX PR w) 1 "is_odd_in" sOddIn ["many", "chosen"] spOddIn := by
  refine calx_of D scOddIn (fun kV doc pm an cdv ct us h => by match us, h with | [u, v], _ => rfl) (fun vs H Q E h => ?_) (fun f cdv A outer s H vs Q E hr h => ?_)
  · obtain ⟨i, j, rfl, _⟩ := h; rfl
  · obtain ⟨i, j, rfl, q⟩ := h
    refine ⟨_, pss_one (ps_ret (pe_cmpR op_eq (pe_op op_and (pv 0) (pv 1)) (pv 1) (nomark _))), ?_⟩
    refine ⟨.int i, rfl, .int j, rfl, i, j, rfl, rfl, .int j, rfl, rfl, ?_⟩
    have : decide (V.int (Builtin.bitAnd i j) = V.int j) = decide (Builtin.bitAnd i j = j) := by
      by_cases h : Builtin.bitAnd i j = j
      · rw [h]; simp
      · rw [decide_eq_false h, decide_eq_false (fun z => h (V.int.inj z))]
    rw [this]
    exact q
end
end K60
set_option maxHeartbeats 4000000
namespace K60
open PySem PySem.Spec PyProof.Rows L2
theorem line_small {n : Nat} (h : n ≤ 1000) : n ≤ sizeLine := by rw [sizeLine_eq]; omega
theorem two_line {a b : V} : [a, b].length ≤ sizeLine := line_small (show 2 ≤ 1000 by decide)
theorem line_lt {n : Nat} (h : n ≤ 1000) : n < sizeLine := by rw [sizeLine_eq]; omega
theorem rep_flat : ∀ h : Nat, (List.replicate h [V.int 0]).flatten = (List.replicate h (0 : Int)).map V.int
  | 0 => rfl
  | m + 1 => by rw [List.replicate_succ, List.flatten_cons, rep_flat m, List.replicate_succ]; rfl
section
variable {w : World} {K : PySem.W.Frag} {mg : Str → Option Value} {base : Heap}
abbrev nGate : List Str := ["lamps", "hands", "ahead", "behind", "place"]
theorem scGate : FnScope nGate ["lamps", "hands"] (defScope sGate) := ⟨rfl, rfl, rfl, by decide +kernel, rfl, by decide +kernel, by decide +kernel⟩
def spGate (K : PySem.W.Frag) : Sp := fun vs H Q _ => ∃ n h : Nat, vs = [.int ((n : Int) + 2), .int (h : Int)] ∧ n ≤ 100 ∧ h ≤ n ∧ ∀ q H', Same H H' → SqT K H' q ((gateN n h).map V.int) → Q (.ref q) H'
theorem x_gate (B : Bt mg) (D1 : HasD K mg "is_odd_in" sOddIn) (D : HasD K mg "gate_bits" sGate) : CalX w K mg base (L2.CX PR w) 2 "gate_bits" sGate ["lamps", "hands"] (spGate K) := by
  refine calx_of D scGate (fun kV doc pm an cdv ct us h => by match us, h with | [u, v], _ => rfl) (fun vs H Q E h => ?_) (fun f cdv A outer s H vs Q E hr h => ?_)
  · obtain ⟨n, h, rfl, _⟩ := h; rfl
  · obtain ⟨n, h, rfl, hn, hh, q⟩ := h
    refine ⟨_, pss_cons (ps_asg (pe_tup (pa_cons (pe_op op_repZ (pe_tup (pa_cons pe_int pa_nil)) (pv 1)) (pa_cons (pe_op op_sub (pe_op op_sub (pv 0) pe_int) (pv 1)) pa_nil)))
        (pg_tup rfl (pgs_cons (pg_name (i := 2) scGate.nd rfl (.inl rfl)) (pgs_cons (pg_name (i := 3) scGate.nd rfl (.inr rfl)) pgs_nil))))
      (pss_one (ps_ret (pe_op op_catA (pv 2) (pe_tupleOf (by rfl) B.tuple
        (pe_lc (own := [("place", 4)]) rfl scGate.nd (pi_range1 (by rfl) B.range (pa_cons (pe_op op_add (pv 3) pe_int) pa_nil)) (blk_by (N := nGate) (sc := defScope sGate) (by decide +kernel))
          (fun _ _ _ _ _ => pg_name (i := 4) scGate.nd rfl (.inl rfl)) (fun _ _ _ _ _ => pts_nil)
          (fun _ _ _ _ _ => pe_ifExp (pt_val (pe_cx (x_oddIn D1) hr (by decide) passL (pa_cons (pv 3) (pa_cons (pv 4) pa_nil)))) pe_int pe_int)))))), ?_⟩
    refine ⟨by decide, fun a na => ?_⟩
    refine ⟨.int (h : Int), rfl, a, h, [.int 0], rfl, rfl, SqT.of upd_same, by simp, by omega, by omega, by simp, fun t H1 s1 ht => ?_⟩
    refine ⟨.int ((n : Int) + 2), rfl, _, 2, rfl, rfl, .int (h : Int), rfl, _, (h : Int), rfl, rfl, two_line, fun T nT => ?_⟩
    refine ⟨T, _, rfl, SqT.of upd_same, rfl, _, _, rfl, _, _, rfl, rfl, ?_⟩
    have sT : Same H (upd H1 T (.tup [.ref t, .int ((n : Int) + 2 - 2 - (h : Int))])) := (same_upd na).trans (s1.trans (same_upd nT))
    have htT : SqT K (upd H1 T (.tup [.ref t, .int ((n : Int) + 2 - 2 - (h : Int))])) t (List.replicate (Int.toNat h) [V.int 0]).flatten := Same.seqT (same_upd nT) ht
    refine ⟨.ref t, rfl, .int ((n : Int) + 2 - 2 - (h : Int)), rfl, _, 1, rfl, rfl, _, rfl, by omega, by omega, fun D nD => ?_⟩
    have en : ((n : Int) + 2 - 2 - (h : Int) + 1).toNat = n - h + 1 := by omega
    have eb : (n : Int) + 2 - 2 - (h : Int) = ((n - h : Nat) : Int) := by omega
    rw [en]
    refine lc_map walk_range (fun p => .int (if Builtin.bitAnd ((n - h : Nat) : Int) ((p : Nat) : Int) = ((p : Nat) : Int) then 1 else 0)) nD (line_lt (by omega)) (fun _ _ => True.intro) (fun i x Ha Hb hi sa y Q' k => ?_) (fun Hd sd ed => ?_)
    · obtain ⟨rfl, rfl⟩ := y
      refine ⟨rfl, .int ((n : Int) + 2 - 2 - (h : Int)), rfl, .int (0 + (i : Int)), rfl, _, _, rfl, _, rfl, ite2 (fun e => ?_) (fun e => ?_)⟩
      · have e := of_decide_eq_true e
        rw [eb, Int.zero_add] at e
        have k := k Hb (Same.refl _)
        rw [if_pos e] at k
        exact k
      · have e : ¬ (Builtin.bitAnd ((n : Int) + 2 - 2 - (h : Int)) (0 + (i : Int)) = 0 + (i : Int)) := fun z => e (decide_eq_true z)
        rw [eb, Int.zero_add] at e
        have k := k Hb (Same.refl _)
        rw [if_neg e] at k
        exact k
    · refine .inl ⟨D, _, rfl, .inl (.inl ed), fun p np => ?_⟩
      have hb : SqT K (upd Hd p (.tup ((List.range (n - h + 1)).map fun p => V.int (if Builtin.bitAnd ((n - h : Nat) : Int) ((p : Nat) : Int) = ((p : Nat) : Int) then 1 else 0)))) p _ := SqT.of upd_same
      have ha : SqT K (upd Hd p (.tup ((List.range (n - h + 1)).map fun p => V.int (if Builtin.bitAnd ((n - h : Nat) : Int) ((p : Nat) : Int) = ((p : Nat) : Int) then 1 else 0)))) t _ := Same.seqT (same_upd np) (Same.seqT sd htT)
      have S : Same H (upd Hd p (.tup ((List.range (n - h + 1)).map fun p => V.int (if Builtin.bitAnd ((n - h : Nat) : Int) ((p : Nat) : Int) = ((p : Nat) : Int) then 1 else 0)))) := sT.trans (sd.trans (same_upd np))
      have er : (List.replicate (Int.toNat h) [V.int 0]).flatten = (List.replicate h (0 : Int)).map V.int := by
        rw [Int.toNat_natCast]
        exact rep_flat h
      have eg : (gateN n h).map V.int = (List.replicate h (0 : Int)).map V.int ++ (List.range (n - h + 1)).map fun p => V.int (if Builtin.bitAnd ((n - h : Nat) : Int) ((p : Nat) : Int) = ((p : Nat) : Int) then 1 else 0) := by
        unfold gateN
        rw [List.map_append, List.map_map]
        rfl
      rw [er] at ha
      refine ⟨t, p, _, _, rfl, rfl, ha, hb, line_small (by simp; omega), fun e0 => q p _ S ?_, fun e0 e1 => ?_, fun e0 e1 r nr => q r _ (S.trans (same_upd nr)) ?_⟩
      · rw [eg, e0]
        exact hb
      · exfalso
        have := congrArg List.length e1
        simp at this
      · rw [eg]
        exact SqT.of upd_same
end
end K60
set_option maxHeartbeats 4000000
namespace K60
open PySem PySem.Spec PyProof.Rows L2
/-! ### the data -/
def pT (ns : List Int) : PyData := .tuple (ns.map .int)
def pL (ns : List Int) : PyData := .list (ns.map .int)
def pTT (bss : List (List Int)) : PyData := .tuple (bss.map pT)
def pLT (bss : List (List Int)) : PyData := .list (bss.map pT)
theorem eqv_ints : ∀ a b : List Int, PyData.eqvAll (a.map .int) (b.map .int) = decide (a = b)
  | [], [] => by simp [PyData.eqvAll]
  | [], _ :: _ => by simp [PyData.eqvAll]
  | _ :: _, [] => by simp [PyData.eqvAll]
  | x :: a, y :: b => by
    simp only [List.map_cons, PyData.eqvAll, PyData.eqv, eqv_ints a b]
    by_cases h : x = y <;> by_cases q : a = b <;> simp [h, q]
theorem eqv_pT (a b : List Int) : PyData.eqv (pT a) (pT b) = decide (a = b) := by
  unfold pT
  simp only [PyData.eqv, eqv_ints]
theorem eqv_pL (a b : List Int) : PyData.eqv (pL a) (pL b) = decide (a = b) := by
  unfold pL
  simp only [PyData.eqv, eqv_ints]
theorem eqv_pTs : ∀ a b : List (List Int), PyData.eqvAll (a.map pT) (b.map pT) = decide (a = b)
  | [], [] => by simp [PyData.eqvAll]
  | [], _ :: _ => by simp [PyData.eqvAll]
  | _ :: _, [] => by simp [PyData.eqvAll]
  | x :: a, y :: b => by
    simp only [List.map_cons, PyData.eqvAll, eqv_pT, eqv_pTs a b]
    by_cases h : x = y <;> by_cases q : a = b <;> simp [h, q]
theorem eqv_pTT (a b : List (List Int)) : PyData.eqv (pTT a) (pTT b) = decide (a = b) := by
  unfold pTT
  simp only [PyData.eqv, eqv_pTs]
theorem eqv_pLT (a b : List (List Int)) : PyData.eqv (pLT a) (pLT b) = decide (a = b) := by
  unfold pLT
  simp only [PyData.eqv, eqv_pTs]
theorem lay_ints : ∀ a : List Int, PyData.canLayAll0 (a.map .int) = true ∧ PyData.depthAll (a.map .int) = 0
  | [] => by simp [PyData.canLayAll0, PyData.depthAll]
  | x :: a => by simp [PyData.canLayAll0, PyData.canLay0, PyData.depthAll, PyData.depth, lay_ints a]
theorem lay_pT (a : List Int) : (pT a).canLay0 = true ∧ (pT a).depth = 1 := by
  unfold pT
  simp only [PyData.canLay0, PyData.depth, (lay_ints a).1, (lay_ints a).2, and_self]
theorem lay_pL (a : List Int) : (pL a).canLay0 = true ∧ (pL a).depth = 1 := by
  unfold pL
  simp only [PyData.canLay0, PyData.depth, (lay_ints a).1, (lay_ints a).2, and_self]
theorem lay_pTs : ∀ a : List (List Int), PyData.canLayAll0 (a.map pT) = true ∧ PyData.depthAll (a.map pT) ≤ 1
  | [] => by simp [PyData.canLayAll0, PyData.depthAll]
  | x :: a => by
    have h := lay_pTs a
    simp only [List.map_cons, PyData.canLayAll0, PyData.depthAll, (lay_pT x).1, (lay_pT x).2, h.1, Bool.and_self, true_and]
    omega
theorem shp {d : PyData} (h : d.canLay0 = true) (k : d.depth ≤ 64) : SeqAt.shaped d = true := by
  show (d.canLay0 && decide (d.depth ≤ 64)) = true
  rw [Bool.and_eq_true]
  exact ⟨h, decide_eq_true k⟩
theorem shp_pT (a : List Int) : SeqAt.shaped (pT a) = true := shp (lay_pT a).1 (by rw [(lay_pT a).2]; decide)
theorem shp_pL (a : List Int) : SeqAt.shaped (pL a) = true := shp (lay_pL a).1 (by rw [(lay_pL a).2]; decide)
theorem lay_pTT (a : List (List Int)) : (pTT a).canLay0 = true ∧ (pTT a).depth ≤ 2 := by
  unfold pTT
  simp only [PyData.canLay0, PyData.depth, (lay_pTs a).1, true_and]
  have := (lay_pTs a).2
  omega
theorem lay_pLT (a : List (List Int)) : (pLT a).canLay0 = true ∧ (pLT a).depth ≤ 2 := by
  unfold pLT
  simp only [PyData.canLay0, PyData.depth, (lay_pTs a).1, true_and]
  have := (lay_pTs a).2
  omega
theorem shp_pTT (a : List (List Int)) : SeqAt.shaped (pTT a) = true := shp (lay_pTT a).1 (by have := (lay_pTT a).2; omega)
theorem shp_pLT (a : List (List Int)) : SeqAt.shaped (pLT a) = true := shp (lay_pLT a).1 (by have := (lay_pLT a).2; omega)
/-! ### .. in the heap -/
theorem dp_ints {K : PySem.W.Frag} {H : Hp} : ∀ ns : List Int, DpAll K H (ns.map V.int) (ns.map .int)
  | [] => .nil
  | x :: ns => .cons (.int x) (dp_ints ns)
theorem dp_pT {K : PySem.W.Frag} {H : Hp} {a : Addr} {ns : List Int} (h : SqT K H a (ns.map V.int)) : Dp K H (.ref a) (pT ns) := .tup h (dp_ints ns)
theorem dp_pL {K : PySem.W.Frag} {H : Hp} {a : Addr} {ns : List Int} (h : SqL K H a (ns.map V.int)) : Dp K H (.ref a) (pL ns) := .lst h (dp_ints ns)
theorem dp_tps {K : PySem.W.Frag} {H : Hp} : ∀ {xs : List V} {bss : List (List Int)}, Tps K H xs bss → DpAll K H xs (bss.map pT)
  | _, _, .nil => .nil
  | _, _, .cons r t => by
    obtain ⟨a, rfl, h⟩ := r
    exact .cons (dp_pT h) (dp_tps t)
theorem dp_pTT {K : PySem.W.Frag} {H : Hp} {a : Addr} {xs : List V} {bss : List (List Int)} (h : SqT K H a xs) (t : Tps K H xs bss) : Dp K H (.ref a) (pTT bss) := .tup h (dp_tps t)
theorem dp_pLT {K : PySem.W.Frag} {H : Hp} {a : Addr} {xs : List V} {bss : List (List Int)} (h : SqL K H a xs) (t : Tps K H xs bss) : Dp K H (.ref a) (pLT bss) := .lst h (dp_tps t)
/-! ### .. shown -/
theorem sh_ints : ∀ {a : List Int}, Bits a → PyData.showableAll (a.map .int) = true ∧ (PyData.shownAll (a.map .int)).length = a.length ∧ ((PyData.shownAll (a.map .int)).map (·.length)).sum = a.length
  | [], _ => by simp [PyData.showableAll, PyData.shownAll]
  | x :: a, h => by
    obtain ⟨i1, i2, i3⟩ := sh_ints (a := a) fun m hm => h m (List.mem_cons_of_mem _ hm)
    have hx := h x (List.mem_cons_self ..)
    have e0 : ((toString (0 : Int) : String) : Str).length = 1 := by decide
    have e1 : ((toString (1 : Int) : String) : Str).length = 1 := by decide
    simp only [List.map_cons, PyData.showableAll, PyData.shownAll, PyData.showable, PyData.shown, i1, Bool.and_true, List.length_cons, i2, List.sum_cons, i3]
    rcases hx with rfl | rfl
    · exact ⟨by decide, True.intro, by rw [e0]; omega⟩
    · exact ⟨by decide, True.intro, by rw [e1]; omega⟩
theorem sh_pT {a : List Int} (h : Bits a) : (pT a).showable = true ∧ (pT a).shown.length ≤ 3 * a.length + 3 := by
  obtain ⟨i1, i2, i3⟩ := sh_ints h
  unfold pT
  refine ⟨by simp only [PyData.showable, i1], ?_⟩
  simp only [PyData.shown]
  have := tupleText_len_le (PyData.shownAll (a.map .int))
  rw [i2, i3] at this
  omega
theorem sh_pTs {d : Nat} : ∀ {l : List (List Int)}, (∀ x ∈ l, Bits x ∧ x.length ≤ d) → PyData.showableAll (l.map pT) = true ∧ (PyData.shownAll (l.map pT)).length = l.length ∧ ((PyData.shownAll (l.map pT)).map (·.length)).sum ≤ l.length * (3 * d + 3)
  | [], _ => by simp [PyData.showableAll, PyData.shownAll]
  | x :: l, h => by
    obtain ⟨i1, i2, i3⟩ := sh_pTs (l := l) fun m hm => h m (List.mem_cons_of_mem _ hm)
    obtain ⟨hx, hd⟩ := h x (List.mem_cons_self ..)
    obtain ⟨j1, j2⟩ := sh_pT hx
    simp only [List.map_cons, PyData.showableAll, PyData.shownAll, i1, j1, Bool.and_true, List.length_cons, i2, List.sum_cons, true_and]
    rw [Nat.succ_mul]
    omega
theorem sh_pTT {l : List (List Int)} (hl : l.length ≤ 64) (h : ∀ x ∈ l, Bits x ∧ x.length ≤ 100) : (pTT l).showable = true ∧ (pTT l).hasDict = false ∧ (pTT l).depth ≤ 2 ∧ (pTT l).shown.length ≤ sizeLine := by
  obtain ⟨i1, i2, i3⟩ := sh_pTs h
  refine ⟨by unfold pTT; simp only [PyData.showable, i1], PyData.hasDict_of_canLay _ (lay_pTT l).1, (lay_pTT l).2, ?_⟩
  unfold pTT
  simp only [PyData.shown]
  have := tupleText_len_le (PyData.shownAll (l.map pT))
  rw [i2] at this
  have q : l.length * (3 * 100 + 3) ≤ 64 * 303 := Nat.mul_le_mul_right _ hl
  rw [sizeLine_eq]
  omega
theorem sh_pLT {l : List (List Int)} (hl : l.length ≤ 64) (h : ∀ x ∈ l, Bits x ∧ x.length ≤ 100) : (pLT l).showable = true ∧ (pLT l).hasDict = false ∧ (pLT l).depth ≤ 2 ∧ (pLT l).shown.length ≤ sizeLine := by
  obtain ⟨i1, i2, i3⟩ := sh_pTs h
  refine ⟨by unfold pLT; simp only [PyData.showable, i1], PyData.hasDict_of_canLay _ (lay_pLT l).1, (lay_pLT l).2, ?_⟩
  unfold pLT
  simp only [PyData.shown]
  have := listText_len_le (PyData.shownAll (l.map pT))
  rw [i2] at this
  have q : l.length * (3 * 100 + 3) ≤ 64 * 303 := Nat.mul_le_mul_right _ hl
  rw [sizeLine_eq]
  omega
end K60
set_option maxHeartbeats 4000000
namespace K60
open PySem PySem.Spec PyProof.Rows L2
section
variable {w : World} {K : PySem.W.Frag} {mg : Str → Option Value} {base : Heap}
abbrev nNeedBits : List Str := ["value", "part", "bit"]
theorem scNeedBits : FnScope nNeedBits ["value", "part"] (defScope sNeedBits) := ⟨rfl, rfl, rfl, by decide +kernel, rfl, by decide +kernel, by decide +kernel⟩
/-- no bits -/
def NotBits (K : PySem.W.Frag) (H : Hp) (v : V) : Prop := NoSeq H v ∨ ∃ a xs, v = .ref a ∧ Seq K H a xs ∧ (59 < xs.length ∨ ((∀ x ∈ xs, Pl K H x) ∧ ∃ x ∈ xs, inB x = false))
theorem NotBits.same {H H' : Hp} {v : V} (h : NotBits K H v) (s : Same H H') : NotBits K H' v := by
  rcases h with h | ⟨a, xs, rfl, h1, h2⟩
  · exact .inl (h.same s)
  · exact .inr ⟨a, xs, rfl, h1.same s, h2.imp id fun ⟨h3, h4⟩ => ⟨fun x hx => (h3 x hx).same s, h4⟩⟩
def spNeedBits (K : PySem.W.Frag) (C : Addr) : Sp := fun vs H Q E => ∃ v part, vs = [v, .str part] ∧
  ((∃ a ns, v = .ref a ∧ Seq K H a (ns.map V.int) ∧ Bits ns ∧ ns.length ≤ 59 ∧ ∀ q H', Same H H' → SqT K H' q (ns.map V.int) → Q (.ref q) H') ∨ (NotBits K H v ∧ Bad C part H E))
theorem all_inB (xs : List V) : (((List.range xs.length).map fun i => inB (xs.getD i .non)).all id) = xs.all inB := by
  have : ((List.range xs.length).map fun i => inB (xs.getD i .non)) = xs.map inB := by
    apply List.ext_getElem?
    intro i
    by_cases hi : i < xs.length
    · rw [List.getElem?_map, List.getElem?_range hi, List.getElem?_map, List.getElem?_eq_getElem hi]
      simp [hi]
    · rw [List.getElem?_eq_none (by simp; omega), List.getElem?_eq_none (by simp; omega)]
  rw [this, List.all_map]
  rfl
theorem x_needBits {C fI : Addr} (T : NumTxt K mg C fI) (B : Bt mg) (D1 : HasD K mg "is_integer" sIsInt) (D2 : HasD K mg "is_within" sWithin) (D3 : HasD K mg "is_list" sIsList) (D : HasD K mg "need_bits" sNeedBits) :
    CalX w K mg base (L2.CX PR w) 3 "need_bits" sNeedBits ["value", "part"] (spNeedBits K C) := by
  refine calx_of D scNeedBits (fun kV doc pm an cdv ct us h => by match us, h with | [u1, u2], _ => rfl) (fun vs H Q E h => ?_) (fun f cdv A outer s H vs Q E hr h => ?_)
  · obtain ⟨v, part, rfl, _⟩ := h; rfl
  · obtain ⟨v, part, rfl, h⟩ := h
    obtain ⟨mt, em⟩ := B.most
    refine ⟨_, pss_cons (ps_if (PW.pt (pw_or (pt_not (pt_val (pe_cx (x_isList B D3) hr (by decide) passL (pa_cons (pv 0) pa_nil))))
        (pw_or (pt_cmpR op_gt (pe_callB call_len_seq (by rfl) B.len PySem.boot_len (pa_cons (pv 0) pa_nil)) (pe_glob (v := .int 59) (by rfl) em ⟨mt, rfl⟩) (nomark _))
        (pw_or1 (pt_not (pt_val (pe_callB (cr_all rfl) (by rfl) B.all boot_all (pa_cons (pe_lc (own := [("bit", 2)]) rfl scNeedBits.nd (pi_or (pi_list (pv 0)) (pi_tup (pv 0))) (blk_by (N := nNeedBits) (sc := defScope sNeedBits) (by decide +kernel))
          (fun _ _ _ _ _ => pg_name (i := 2) scNeedBits.nd rfl (.inl rfl)) (fun _ _ _ _ _ => pts_nil) (fun _ _ _ _ _ => pe_cx (x_within B D1 D2) hr (by decide) passL (pa_cons (pv 2) (pa_cons pe_int (pa_cons pe_int pa_nil))))) pa_nil))))))))
        (pss_one (ps_raiseNum rfl rfl T hr (takes_of rfl rfl rfl rfl) (pa_cons (pv 1) pa_nil))) pss_nil)
      (pss_one (ps_ret (pe_tupleOf (by rfl) B.tuple (pv 0)))), ?_⟩
    have raise_ : ∀ H', Same H H' → Bad C part H E → tSeq (tRaiseNum C (fun cls d _ H => E cls d H) (tCons (tVar 1) tNil)) tNever { nx := fun _ H' => Q .non H', rt := Q } (start nNeedBits [v, .str part]) H' := fun H' sm b => by
      refine ⟨.str part, rfl, .str part, rfl, fun d nd => b _ d (sm.trans (same_upd nd)) upd_same⟩
    have main : (NoSeq H v ∧ Bad C part H E) ∨ ∃ a xs, v = .ref a ∧ Seq K H a xs ∧ (59 < xs.length ∨ ∀ x ∈ xs, Pl K H x) ∧ (59 < xs.length ∨ xs.all inB = false → Bad C part H E) ∧ (xs.length ≤ 59 → xs.all inB = true → ∀ q H', Same H H' → SqT K H' q xs → Q (.ref q) H') := by
      rcases h with ⟨a, ns, rfl, hq, hb, hl, q⟩ | ⟨nb, bd⟩
      · refine .inr ⟨a, ns.map V.int, rfl, hq, .inr fun x hx => ?_, fun z => ?_, fun _ _ => q⟩
        · obtain ⟨i, _, rfl⟩ := List.mem_map.mp hx
          exact .int i
        · exfalso
          rw [List.length_map] at z
          have : (ns.map V.int).all inB = true := by
            rw [List.all_eq_true]
            intro x hx
            obtain ⟨i, hi, rfl⟩ := List.mem_map.mp hx
            rcases hb i hi with rfl | rfl <;> decide
          rcases z with z | z
          · omega
          · rw [this] at z; cases z
      · rcases nb with nb | ⟨a, xs, rfl, h1, h2⟩
        · exact .inl ⟨nb, bd⟩
        · refine .inr ⟨a, xs, rfl, h1, h2.imp id (·.1), fun _ => bd, fun hl hall => ?_⟩
          exfalso
          rcases h2 with h2 | ⟨_, x, hx, e⟩
          · omega
          · rw [List.all_eq_true] at hall
            rw [hall x hx] at e
            cases e
    rcases main with ⟨ns, bd⟩ | ⟨a, xs, rfl, hq, hp, hbad, hgood⟩
    · exact ⟨v, rfl, v, false, rfl, .inl ⟨ns, rfl⟩, fun H1 s1 => ⟨_, rfl, raise_ H1 s1 bd⟩⟩
    · refine ⟨.ref a, rfl, .ref a, true, rfl, .inr ⟨⟨a, xs, rfl, hq⟩, rfl⟩, fun H1 s1 => ⟨_, rfl, ?_⟩⟩
      have hq1 : Seq K H1 a xs := hq.same s1
      refine ⟨.ref a, rfl, a, xs, rfl, hq1, _, 59, rfl, rfl, _, rfl, ite2 (fun e => ?_) (fun e => ?_)⟩
      · exact raise_ H1 s1 (hbad (.inl (by have := of_decide_eq_true e; omega)))
      · have hl : xs.length ≤ 59 := by
          have : ¬ ((59 : Int) < (xs.length : Int)) := fun z => e (decide_eq_true z)
          omega
        have hpl : ∀ x ∈ xs, Pl K H x := hp.elim (fun z => absurd z (by omega)) id
        -- behind the comprehension
        have fin : ∀ D Hd, Same H1 Hd → Hd D = some (.lst ((List.range xs.length).map fun i => V.bl (inB (xs.getD i .non)))) → ∀ Qe : Bool → Hp → Prop, Qe (xs.all inB) Hd → rAll K [.ref D] Hd fun x H2 => ∃ c, x = .bl c ∧ Qe c H2 := fun D Hd sd ed Qe q => by
          refine ⟨D, (List.range xs.length).map fun i => inB (xs.getD i .non), rfl, .inl (.inl (by rw [List.map_map]; exact ed)), _, rfl, ?_⟩
          rw [all_inB]
          exact q
        have last : ∀ Hd, Same H1 Hd → (if (!xs.all inB) = true then tRaiseNum C (fun cls d _ H => E cls d H) (tCons (tVar 1) tNil) { nx := fun σ H => tRet (tThen (tVar 0) (kTup K)) { nx := fun _ H' => Q .non H', rt := Q } σ H, rt := Q } (start nNeedBits [.ref a, .str part]) Hd else
            tRet (tThen (tVar 0) (kTup K)) { nx := fun _ H' => Q .non H', rt := Q } (start nNeedBits [.ref a, .str part]) Hd) := fun Hd sd => by
          refine ite2 (fun z => ?_) (fun z => ?_)
          · exact ⟨.str part, rfl, .str part, rfl, fun d nd => hbad (.inr (by simpa using z)) _ d ((s1.trans sd).trans (same_upd nd)) upd_same⟩
          · have hall : xs.all inB = true := by simpa using z
            refine ⟨.ref a, rfl, ?_⟩
            rcases hq1.same sd with h2 | h2
            · exact .inl ⟨a, xs, rfl, h2, fun q nq => hgood hl hall q _ ((s1.trans sd).trans (same_upd nq)) (SqT.of upd_same)⟩
            · exact .inr ⟨a, xs, rfl, h2, hgood hl hall a _ (s1.trans sd) h2⟩
        rcases hq1 with h1 | h1
        · refine .inl ⟨.ref a, rfl, a, rfl, ⟨_, h1⟩, fun D nD => ?_⟩
          refine lc_map walk_list (fun i => .bl (inB (xs.getD i .non))) nD (line_lt (by omega)) (fun _ sm => Same.seq sm h1) (fun i x Ha Hb hi sa y Q' k => ?_) (fun Hd sd ed => fin D Hd sd ed _ (last Hd sd))
          obtain ⟨rfl, y⟩ := y
          have hx : x = xs.getD i .non := by rw [List.getD_eq_getElem?_getD, y]; rfl
          exact ⟨rfl, x, rfl, x, rfl, (hpl x (List.mem_of_getElem? y)).same (s1.trans sa), by rw [hx]; exact k Hb (Same.refl _)⟩
        · refine .inr ⟨.ref a, rfl, a, rfl, ⟨_, h1⟩, fun D nD => ?_⟩
          refine lc_map walk_tup (fun i => .bl (inB (xs.getD i .non))) nD (line_lt (by omega)) (fun _ sm => Same.seqT sm h1) (fun i x Ha Hb hi sa y Q' k => ?_) (fun Hd sd ed => fin D Hd sd ed _ (last Hd sd))
          obtain ⟨rfl, y⟩ := y
          have hx : x = xs.getD i .non := by rw [List.getD_eq_getElem?_getD, y]; rfl
          exact ⟨rfl, x, rfl, x, rfl, (hpl x (List.mem_of_getElem? y)).same (s1.trans sa), by rw [hx]; exact k Hb (Same.refl _)⟩
/-! ### burns -/
theorem scNeedBurns : FnScope ["burns"] ["burns"] (defScope sNeedBurns) := ⟨rfl, rfl, rfl, by decide +kernel, rfl, by decide +kernel, by decide +kernel⟩
def spNeedBurns (K : PySem.W.Frag) (C : Addr) : Sp := fun vs H Q E => ∃ v, vs = [v] ∧ Pl K H v ∧ (inB v = true → Q .non H) ∧ (inB v = false → Bad C "burns" H E)
theorem x_needBurns {C fI : Addr} (T : NumTxt K mg C fI) (B : Bt mg) (D1 : HasD K mg "is_integer" sIsInt) (D2 : HasD K mg "is_within" sWithin) (D3 : HasD K mg "need_number" sNeedNum) (D : HasD K mg "need_burns" sNeedBurns) :
    CalX w K mg base (L2.CX PR w) 4 "need_burns" sNeedBurns ["burns"] (spNeedBurns K C) := by
  refine calx_of D scNeedBurns (fun kV doc pm an cdv ct us h => by match us, h with | [u1], _ => rfl) (fun vs H Q E h => ?_) (fun f cdv A outer s H vs Q E hr h => ?_)
  · obtain ⟨v, rfl, _⟩ := h; rfl
  · obtain ⟨v, rfl, p, q, b⟩ := h
    refine ⟨_, pss_one (ps_expr (pe_cx (E := E) (x_needNum T B D1 D2 D3) hr (by decide) (passes_call (takes_of rfl rfl rfl rfl) fun _ _ _ _ h => h) (pa_cons (pv 0) (pa_cons pe_str (pa_cons pe_int (pa_cons pe_int pa_nil)))))), ?_⟩
    exact ⟨v, rfl, v, "burns", rfl, p, q, b⟩
end
end K60
set_option maxHeartbeats 4000000
namespace K60
open PySem PySem.Spec PyProof.Rows L2
theorem walk_zipT {K : PySem.W.Frag} {a b : Addr} {xs ys : List V} {n : Nat} (hn : n = min xs.length ys.length) : Walk (RZ.ItzT K a b) n (fun H => SqT K H a xs ∧ SqT K H b ys) (YPair (fun i => xs[i]?) (fun i => ys[i]?)) := by
  subst hn
  refine ⟨fun i _ hi q => ?_, fun _ q => ⟨xs, ys, q.1, q.2, by omega⟩, fun i H v H' _ q y => ?_⟩
  · have h1 : i < xs.length := by omega
    have h2 : i < ys.length := by omega
    exact ⟨xs, ys, xs[i], ys[i], q.1, q.2, by simp [h1], by simp [h2]⟩
  · obtain ⟨T, x, z, h1, h2, h3, h4, h5⟩ := y
    exact ⟨T, x, z, h1, h2, h3, h4 xs q.1, h5 ys q.2⟩
/-- a new list of the sums, modulo 2 -/
theorem zw_map (a b : List Int) : (List.range (min a.length b.length)).map (fun i => V.int (xb (a.getD i 0) (b.getD i 0))) = (List.zipWith xb a b).map V.int := by
  apply List.ext_getElem?
  intro i
  by_cases hi : i < min a.length b.length
  · have h1 : i < a.length := by omega
    have h2 : i < b.length := by omega
    rw [List.getElem?_map, List.getElem?_range hi, List.getElem?_map, List.getElem?_zipWith, List.getElem?_eq_getElem h1, List.getElem?_eq_getElem h2]
    simp [List.getD_eq_getElem?_getD, h1, h2]
  · rw [List.getElem?_eq_none (by simp; omega), List.getElem?_eq_none (by simp; omega)]
theorem map_get {a : List Int} {i : Nat} {x : V} (h : (a.map V.int)[i]? = some x) : x = .int (a.getD i 0) := by
  rw [List.getElem?_map] at h
  cases e : a[i]? with
  | none => rw [e] at h; cases h
  | some z =>
    rw [e] at h
    rw [List.getD_eq_getElem?_getD, e]
    exact (Option.some.inj h).symm
section
variable {w : World} {K : PySem.W.Frag} {mg : Str → Option Value} {base : Heap}
abbrev nMixedIn : List Str := ["parities", "free", "burns", "off", "lit", "one", "other"]
theorem scMixedIn : FnScope nMixedIn ["parities", "free", "burns"] (defScope sMixedIn) := ⟨rfl, rfl, rfl, by decide +kernel, rfl, by decide +kernel, by decide +kernel⟩
def spMixedIn (K : PySem.W.Frag) : Sp := fun vs H Q _ => ∃ (a b : Addr) (ps fs : List Int) (k : Int), vs = [.ref a, .ref b, .int k] ∧ SqT K H a (ps.map V.int) ∧ SqT K H b (fs.map V.int) ∧ ps.length ≤ 100 ∧ fs.length ≤ 100 ∧ ∀ q H', Same H H' → SqT K H' q ((mixF ps fs k).map V.int) → Q (.ref q) H'
theorem x_mixedIn (B : Bt mg) (D : HasD K mg "mixed_in" sMixedIn) : CalX w K mg base (L2.CX PR w) 1 "mixed_in" sMixedIn ["parities", "free", "burns"] (spMixedIn K) := by
  refine calx_of D scMixedIn (fun kV doc pm an cdv ct us h => by match us, h with | [u1, u2, u3], _ => rfl) (fun vs H Q E h => ?_) (fun f cdv A outer s H vs Q E hr h => ?_)
  · obtain ⟨a, b, ps, fs, k, rfl, _⟩ := h; rfl
  · obtain ⟨a, b, ps, fs, k, rfl, ha, hb, la, lb, q⟩ := h
    refine ⟨_, pss_cons (ps_asg (pe_ifExp (pt_cmpR op_eq (pv 2) pe_int (nomark _)) (pe_tup (pa_cons (pv 1) (pa_cons (pv 0) pa_nil))) (pe_tup (pa_cons (pv 0) (pa_cons (pv 1) pa_nil))))
        (pg_tup rfl (pgs_cons (pg_name (i := 3) scMixedIn.nd rfl (.inl rfl)) (pgs_cons (pg_name (i := 4) scMixedIn.nd rfl (.inl rfl)) pgs_nil))))
      (pss_one (ps_ret (pe_tupleOf (by rfl) B.tuple (pe_lc (own := [("one", 5), ("other", 6)]) (g := gTup K 2 (gCons (gName 5) (gCons (gName 6) gNil))) rfl scMixedIn.nd
        (RZ.pi_zipA (by rfl) B.zip (pa_cons (pe_tup (StX.pa_star (pv 3) (pa_cons pe_int pa_nil))) (pa_cons (pe_tup (pa_cons pe_int (StX.pa_star (pv 4) pa_nil))) pa_nil))) (blk_by (N := nMixedIn) (sc := defScope sMixedIn) (by decide +kernel))
        (fun _ _ _ _ _ => pg_tup rfl (pgs_cons (pg_name (i := 5) scMixedIn.nd rfl (.inl rfl)) (pgs_cons (pg_name (i := 6) scMixedIn.nd rfl (.inl rfl)) pgs_nil))) (fun _ _ _ _ _ => pts_nil)
        (fun _ _ _ _ _ => pe_op op_mod (pe_op op_add (pv 5) (pv 6)) pe_int))))), ?_⟩
    -- behind the first line
    have rest : ∀ (o l : Addr) (os ls : List Int) (H1 : Hp), Same H H1 → SqT K H1 o (os.map V.int) → SqT K H1 l (ls.map V.int) → os.length ≤ 100 → ls.length ≤ 100 → mixF ps fs k = List.zipWith xb (os ++ [0]) (0 :: ls) →
        tRet (tThen (tLc (RZ.iZipA K (tCons (tTup (StX.tStar K (tVar 3) (tCons (tC (.int 0)) tNil))) (tCons (tTup (tCons (tC (.int 0)) (StX.tStar K (tVar 4) tNil))) tNil))) (gTup K 2 (gCons (gName 5) (gCons (gName 6) gNil))) tYes (tOp (rI (fun _ j => 0 < j) fun i j => .int (i % j)) (tOp (rI0 fun i j => .int (i + j)) (tVar 5) (tVar 6)) (tC (.int 2))) [5, 6]) (kTup K))
          { nx := fun _ H' => Q .non H', rt := Q } [some (.ref a), some (.ref b), some (.int k), some (.ref o), some (.ref l), none, none] H1 := fun o l os ls H1 s1 ho hl lo ll em => by
      refine ⟨.ref o, rfl, o, _, rfl, .inl ho, ?_⟩
      refine ⟨line_small (by simp; omega), fun z nz => ⟨.ref l, rfl, l, _, rfl, .inl (Same.seqT (same_upd nz) hl), line_small (by simp; omega), fun y ny => ?_⟩⟩
      have e1 : os.map V.int ++ [V.int 0] = (os ++ [0]).map V.int := by simp
      have e2 : [V.int 0] ++ (ls.map V.int ++ []) = ((0 : Int) :: ls).map V.int := by simp
      have hz : SqT K (upd (upd H1 z (.tup (os.map V.int ++ [V.int 0]))) y (.tup (V.int 0 :: (ls.map V.int ++ [])))) z ((os ++ [0]).map V.int) := by
        rw [← e1]
        exact Same.seqT (same_upd ny) (SqT.of upd_same)
      have hy : SqT K (upd (upd H1 z (.tup (os.map V.int ++ [V.int 0]))) y (.tup (V.int 0 :: (ls.map V.int ++ [])))) y (((0 : Int) :: ls).map V.int) := by
        rw [← e2]
        exact SqT.of upd_same
      refine ⟨z, y, _, _, rfl, .inr ⟨hz, hy, fun D nD => ?_⟩⟩
      refine lc_map (walk_zipT (n := min (os ++ [0]).length ((0 : Int) :: ls).length) (by simp)) (fun i => .int (xb ((os ++ [0]).getD i 0) (((0 : Int) :: ls).getD i 0))) nD (line_lt (by simp; omega)) (fun _ sm => ⟨Same.seqT sm hz, Same.seqT sm hy⟩) (fun i x Ha Hb hi sa yy Q' kk => ?_) (fun Hd sd ed => ?_)
      · obtain ⟨T, x1, x2, rfl, nT, rfl, f1, f2⟩ := yy
        have g1 := map_get f1
        have g2 := map_get f2
        subst g1 g2
        refine ⟨T, _, rfl, SqT.of upd_same, rfl, _, _, rfl, _, _, rfl, rfl, rfl, ?_⟩
        exact ⟨_, rfl, _, rfl, _, _, rfl, rfl, _, 2, rfl, rfl, (show (0 : Int) < 2 by decide), kk _ (same_upd nT)⟩
      · refine .inl ⟨D, _, rfl, .inl (.inl ed), fun p np => q p _ ((s1.trans ((same_upd nz).trans (same_upd ny))).trans (sd.trans (same_upd np))) ?_⟩
        rw [em, ← zw_map]
        exact SqT.of upd_same
    refine ⟨.int k, rfl, rfl, _, rfl, ite2 (fun e => ?_) (fun e => ?_)⟩
    · have ek : k = 1 := V.int.inj (of_decide_eq_true e)
      refine ⟨.ref b, rfl, .ref a, rfl, two_line, fun T nT => ⟨T, _, rfl, SqT.of upd_same, rfl, _, _, rfl, _, _, rfl, rfl, ?_⟩⟩
      exact rest b a fs ps _ (same_upd nT) (Same.seqT (same_upd nT) hb) (Same.seqT (same_upd nT) ha) lb la (by unfold mixF; rw [if_pos ek, if_pos ek])
    · have ek : ¬ k = 1 := fun z => e (decide_eq_true (by rw [z]))
      refine ⟨.ref a, rfl, .ref b, rfl, two_line, fun T nT => ⟨T, _, rfl, SqT.of upd_same, rfl, _, _, rfl, _, _, rfl, rfl, ?_⟩⟩
      exact rest a b ps fs _ (same_upd nT) (Same.seqT (same_upd nT) ha) (Same.seqT (same_upd nT) hb) la lb (by unfold mixF; rw [if_neg ek, if_neg ek])
end
end K60
set_option maxHeartbeats 4000000
namespace K60
open PySem PySem.Spec PyProof.Rows L2
theorem cutDrop1 (xs : List V) : cutV xs (some 1) none = xs.drop 1 := by
  unfold cutV
  rw [show HT.sIx xs.length 0 (some 1) = min 1 xs.length from HT.sIx_nat xs.length 0 1, HT.sIx_none]
  cases xs with
  | nil => rfl
  | cons x r =>
    rw [show min 1 (x :: r).length = 1 by
      rw [List.length_cons]
      omega]
    show (List.take ((x :: r).length - 1) r) = r
    rw [List.length_cons, Nat.add_sub_cancel]
    exact List.take_length
theorem cutTake (xs : List V) (n : Nat) : cutV xs none (some (n : Int)) = xs.take n := by
  unfold cutV
  rw [HT.sIx_nat, HT.sIx_none, List.drop_zero, Nat.sub_zero]
  by_cases h : n ≤ xs.length
  · rw [Nat.min_eq_left h]
  · rw [Nat.min_eq_right (by omega), List.take_length, List.take_of_length_le (by omega)]
section
variable {w : World} {K : PySem.W.Frag} {mg : Str → Option Value} {base : Heap}
abbrev nFreeIn : List Str := ["parities", "mixed", "burns", "many", "found", "free", "each", "its"]
theorem scFreeIn : FnScope nFreeIn ["parities", "mixed", "burns"] (defScope sFreeIn) := ⟨rfl, rfl, rfl, by decide +kernel, rfl, by decide +kernel, by decide +kernel⟩
def spFreeIn (K : PySem.W.Frag) : Sp := fun vs H Q _ => ∃ (a b : Addr) (ps ms : List Int) (k : Int), vs = [.ref a, .ref b, .int k] ∧ SqT K H a (ps.map V.int) ∧ SqT K H b (ms.map V.int) ∧ ps.length ≤ 90 ∧ ms.length = ps.length + 1 ∧
  (freeF ps ms k = none → ∀ H', Same H H' → Q .non H') ∧ ∀ fr, freeF ps ms k = some fr → ∀ q H', Same H H' → SqT K H' q (fr.map V.int) → Q (.ref q) H'
theorem x_freeIn (B : Bt mg) (D1 : HasD K mg "mixed_in" sMixedIn) (D : HasD K mg "free_in" sFreeIn) : CalX w K mg base (L2.CX PR w) 2 "free_in" sFreeIn ["parities", "mixed", "burns"] (spFreeIn K) := by
  refine calx_of D scFreeIn (fun kV doc pm an cdv ct us h => by match us, h with | [u1, u2, u3], _ => rfl) (fun vs H Q E h => ?_) (fun f cdv A outer s H vs Q E hr h => ?_)
  · obtain ⟨a, b, ps, ms, k, rfl, _⟩ := h; rfl
  · obtain ⟨a, b, ps, ms, k, rfl, ha, hb, la, lb, q0, q1⟩ := h
    refine ⟨_, pss_cons (ps_set (i := 3) scFreeIn.nd rfl (.inl rfl) (pe_callB call_len_seq (by rfl) B.len PySem.boot_len (pa_cons (pv 0) pa_nil)))
      (pss_cons (ps_setLc (i := 4) (own := [("each", 6), ("its", 7)]) (g := gTup K 2 (gCons (gName 6) (gCons (gName 7) gNil))) rfl scFreeIn.nd rfl rfl (by rfl)
        (RZ.pi_zipA (by rfl) B.zip (pa_cons (pv 1) (pa_cons (pe_ifExp (pt_cmpR op_eq (pv 2) pe_int (nomark _)) (pe_tup (pa_cons pe_int (StX.pa_star (pv 0) pa_nil))) (pe_tup (StX.pa_star (pv 0) (pa_cons pe_int pa_nil)))) pa_nil))) (blk_by (N := nFreeIn) (sc := defScope sFreeIn) (by decide +kernel))
        (fun _ _ _ _ _ => pg_tup rfl (pgs_cons (pg_name (i := 6) scFreeIn.nd rfl (.inl rfl)) (pgs_cons (pg_name (i := 7) scFreeIn.nd rfl (.inl rfl)) pgs_nil))) (fun _ _ _ _ _ => pts_nil)
        (fun _ _ _ _ _ => pe_op op_mod (pe_op op_add (pv 6) (pv 7)) pe_int))
      (pss_cons (ps_set (i := 5) scFreeIn.nd rfl (.inl rfl) (pe_tupleOf (by rfl) B.tuple (pe_ifExp (pt_cmpR op_eq (pv 2) pe_int (nomark _)) (pe_slice sl_list (pv 4) po_none (po_some (pv 3))) (pe_slice sl_list (pv 4) (po_some pe_int) po_none))))
      (pss_one (ps_ret (pe_ifExp (pt_cmpR (op_eqD hr.units) (pe_cx (x_mixedIn B D1) hr (by decide) passL (pa_cons (pv 0) (pa_cons (pv 5) (pa_cons (pv 2) pa_nil)))) (pv 1) (nomark _)) (pv 5) pe_non))))), ?_⟩
    refine ⟨.ref a, rfl, a, _, rfl, .inr ha, ?_⟩
    -- the last two lines
    have last : ∀ (D t : Addr) (vm vf : V) (H2 : Hp), Same H H2 → SqT K H2 t ((freeC ps ms k).map V.int) →
        tRet (tIf (tTest (tOp (rEqD K) (tCall (spMixedIn K) [] E0 (tCons (tVar 0) (tCons (tVar 5) (tCons (tVar 2) tNil)))) (tVar 1))) (tVar 5) (tC .non)) { nx := fun _ H' => Q .non H', rt := Q }
          [some (.ref a), some (.ref b), some (.int k), some vm, some vf, some (.ref t), none, none] H2 := fun D t vm vf H2 s2 ht => by
      refine ⟨.ref a, rfl, .ref t, rfl, .int k, rfl, a, t, ps, freeC ps ms k, k, rfl, Same.seqT s2 ha, ht, by omega, by rw [freeC_length lb]; omega, fun z H3 s3 hz => ?_⟩
      refine ⟨.ref b, rfl, pT (mixF ps (freeC ps ms k) k), pT ms, dp_pT hz, dp_pT (Same.seqT (s2.trans s3) hb), shp_pT _, shp_pT _, _, rfl, ?_⟩
      rw [eqv_pT]
      refine ite2 (fun e => ?_) (fun e => ?_)
      · have e := of_decide_eq_true e
        exact ⟨.ref t, rfl, q1 _ (by unfold freeF; rw [if_pos e]) t H3 (s2.trans s3) (Same.seqT s3 ht)⟩
      · have e : ¬ mixF ps (freeC ps ms k) k = ms := fun z => e (decide_eq_true z)
        exact q0 (by unfold freeF; rw [if_neg e]) H3 (s2.trans s3)
    -- behind found
    have rest : ∀ (D : Addr) (fnd : List Int) (H1 : Hp), Same H H1 → H1 D = some (.lst (fnd.map V.int)) → freeC ps ms k = (if k = 1 then fnd.take ps.length else fnd.drop 1) →
        tSeq (tAsg (tThen (tIf (tTest (tOp rEq (tVar 2) (tC (.int 1)))) (tSl (rSlL K) (tVar 4) tNoPart (L2.tPart (tVar 3))) (tSl (rSlL K) (tVar 4) (L2.tPart (tC (.int 1))) tNoPart)) (kTup K)) (gName 5))
          (tRet (tIf (tTest (tOp (rEqD K) (tCall (spMixedIn K) [] E0 (tCons (tVar 0) (tCons (tVar 5) (tCons (tVar 2) tNil)))) (tVar 1))) (tVar 5) (tC .non))) { nx := fun _ H' => Q .non H', rt := Q }
          [some (.ref a), some (.ref b), some (.int k), some (.int (((ps.map V.int).length : Nat) : Int)), some (.ref D), none, none, none] H1 := fun D fnd H1 s1 eD ef => by
      refine ⟨.int k, rfl, rfl, _, rfl, ite2 (fun e => ?_) (fun e => ?_)⟩
      · have ek : k = 1 := V.int.inj (of_decide_eq_true e)
        refine ⟨.ref D, rfl, _, rfl, _, rfl, D, _, rfl, .inl (.inl eD), fun p np => .inl ⟨p, _, rfl, .inl (.inl upd_same), fun t nt => ?_⟩⟩
        refine last D t _ _ _ ((s1.trans (same_upd np)).trans (same_upd nt)) ?_
        rw [ef, if_pos ek]
        refine SqT.of ?_
        rw [upd_same, cutTake, List.length_map, List.map_take]
      · have ek : ¬ k = 1 := fun z => e (decide_eq_true (by rw [z]))
        refine ⟨.ref D, rfl, _, rfl, D, _, rfl, .inl (.inl eD), fun p np => .inl ⟨p, _, rfl, .inl (.inl upd_same), fun t nt => ?_⟩⟩
        refine last D t _ _ _ ((s1.trans (same_upd np)).trans (same_upd nt)) ?_
        rw [ef, if_neg ek]
        refine SqT.of ?_
        rw [upd_same, cutDrop1, List.map_drop]
    -- found
    have comp : ∀ (y : Addr) (ys : List Int) (H1 : Hp), Same H H1 → SqT K H1 y (ys.map V.int) → ys.length = ps.length + 1 → freeC ps ms k = (if k = 1 then (List.zipWith xb ms ys).take ps.length else (List.zipWith xb ms ys).drop 1) → True := fun _ _ _ _ _ _ _ => True.intro
    refine ⟨.ref b, rfl, .int k, rfl, rfl, _, rfl, ite2 (fun e => ?_) (fun e => ?_)⟩
    · have ek : k = 1 := V.int.inj (of_decide_eq_true e)
      refine ⟨.ref a, rfl, a, _, rfl, .inl ha, line_small (by simp; omega), fun y ny => ?_⟩
      have e2 : [V.int 0] ++ (ps.map V.int ++ []) = ((0 : Int) :: ps).map V.int := by simp
      have hy : SqT K (upd H y (.tup (V.int 0 :: (ps.map V.int ++ [])))) y (((0 : Int) :: ps).map V.int) := by
        rw [← e2]
        exact SqT.of upd_same
      have hb1 : SqT K (upd H y (.tup (V.int 0 :: (ps.map V.int ++ [])))) b (ms.map V.int) := Same.seqT (same_upd ny) hb
      refine ⟨b, y, _, _, rfl, .inr ⟨hb1, hy, fun D nD => ?_⟩⟩
      refine lc_map (walk_zipT (n := min ms.length ((0 : Int) :: ps).length) (by simp)) (fun i => .int (xb (ms.getD i 0) (((0 : Int) :: ps).getD i 0))) nD (line_lt (by simp; omega)) (fun _ sm => ⟨Same.seqT sm hb1, Same.seqT sm hy⟩) (fun i x Ha Hb hi sa yy Q' kk => ?_) (fun Hd sd ed => ?_)
      · obtain ⟨T, x1, x2, rfl, nT, rfl, f1, f2⟩ := yy
        have g1 := map_get f1
        have g2 := map_get f2
        subst g1 g2
        exact ⟨T, _, rfl, SqT.of upd_same, rfl, _, _, rfl, _, _, rfl, rfl, rfl, _, rfl, _, rfl, _, _, rfl, rfl, _, 2, rfl, rfl, (show (0 : Int) < 2 by decide), kk _ (same_upd nT)⟩
      · rw [zw_map] at ed
        exact rest D _ Hd ((same_upd ny).trans sd) ed (by unfold freeC; rw [if_pos ek, if_pos ek])
    · have ek : ¬ k = 1 := fun z => e (decide_eq_true (by rw [z]))
      refine ⟨.ref a, rfl, a, _, rfl, .inl ha, line_small (by simp; omega), fun y ny => ?_⟩
      have e2 : ps.map V.int ++ [V.int 0] = (ps ++ [(0 : Int)]).map V.int := by simp
      have hy : SqT K (upd H y (.tup (ps.map V.int ++ [V.int 0]))) y ((ps ++ [(0 : Int)]).map V.int) := by
        rw [← e2]
        exact SqT.of upd_same
      have hb1 : SqT K (upd H y (.tup (ps.map V.int ++ [V.int 0]))) b (ms.map V.int) := Same.seqT (same_upd ny) hb
      refine ⟨b, y, _, _, rfl, .inr ⟨hb1, hy, fun D nD => ?_⟩⟩
      refine lc_map (walk_zipT (n := min ms.length (ps ++ [(0 : Int)]).length) (by simp)) (fun i => .int (xb (ms.getD i 0) ((ps ++ [(0 : Int)]).getD i 0))) nD (line_lt (by simp; omega)) (fun _ sm => ⟨Same.seqT sm hb1, Same.seqT sm hy⟩) (fun i x Ha Hb hi sa yy Q' kk => ?_) (fun Hd sd ed => ?_)
      · obtain ⟨T, x1, x2, rfl, nT, rfl, f1, f2⟩ := yy
        have g1 := map_get f1
        have g2 := map_get f2
        subst g1 g2
        exact ⟨T, _, rfl, SqT.of upd_same, rfl, _, _, rfl, _, _, rfl, rfl, rfl, _, rfl, _, rfl, _, _, rfl, rfl, _, 2, rfl, rfl, (show (0 : Int) < 2 by decide), kk _ (same_upd nT)⟩
      · rw [zw_map] at ed
        exact rest D _ Hd ((same_upd ny).trans sd) ed (by unfold freeC; rw [if_neg ek, if_neg ek])
end
end K60
set_option maxHeartbeats 4000000
namespace K60
open PySem PySem.Spec PyProof.Rows L2
/-! ### tuples of bits in lists -/
theorem TupI.same {K : PySem.W.Frag} {H H' : Hp} {v : V} {b : List Int} (e : Same H H') (h : TupI K H v b) : TupI K H' v b := by
  obtain ⟨t, rfl, h⟩ := h
  exact ⟨t, rfl, Same.seqT e h⟩
theorem TupI.upd {K : PySem.W.Frag} {H : Hp} {v : V} {b : List Int} {D : Addr} {l : List V} {o : HO} (e : H D = some (.lst l)) (h : TupI K H v b) : TupI K (upd H D o) v b := by
  obtain ⟨t, rfl, h⟩ := h
  refine ⟨t, rfl, ?_⟩
  rcases h with (h | ⟨ob, h⟩) | h
  · refine .inl (.inl ?_)
    rw [upd_ne (fun z => by rw [z, e] at h; cases h)]
    exact h
  · refine .inl (.inr ⟨ob, ?_⟩)
    rw [upd_ne (fun z => by rw [z, e] at h; cases h)]
    exact h
  · exact .inr h
theorem Tps.same {K : PySem.W.Frag} {H H' : Hp} (e : Same H H') : ∀ {xs : List V} {bss : List (List Int)}, Tps K H xs bss → Tps K H' xs bss
  | _, _, .nil => .nil
  | _, _, .cons r t => .cons (TupI.same e r) (Tps.same e t)
theorem Tps.append {K : PySem.W.Frag} {H : Hp} : ∀ {xs ys : List V} {a b : List (List Int)}, Tps K H xs a → Tps K H ys b → Tps K H (xs ++ ys) (a ++ b)
  | _, _, _, _, .nil, t => t
  | _, _, _, _, .cons r s, t => .cons r (Tps.append s t)
theorem Tps.at {K : PySem.W.Frag} {H : Hp} : ∀ {xs : List V} {bss : List (List Int)}, Tps K H xs bss → ∀ (i : Nat) (x : V), xs[i]? = some x → ∃ b, bss[i]? = some b ∧ TupI K H x b
  | _, _, .nil, i, x, h => by simp at h
  | _, _, .cons r t, 0, x, h => by
    cases Option.some.inj h
    exact ⟨_, rfl, r⟩
  | _, _, .cons r t, i + 1, x, h => Tps.at t i x h
theorem tps_ix {K : PySem.W.Frag} {H : Hp} : ∀ {xs : List V} {bss : List (List Int)}, xs.length = bss.length → (∀ (i : Nat) (x : V), xs[i]? = some x → ∀ b, bss[i]? = some b → TupI K H x b) → Tps K H xs bss
  | [], [], _, _ => .nil
  | [], _ :: _, h, _ => by simp at h
  | _ :: _, [], h, _ => by simp at h
  | x :: xs, b :: bss, h, k => .cons (k 0 x rfl b rfl) (tps_ix (by simpa using h) fun i y e c q => k (i + 1) y e c q)
abbrev gPair (K : PySem.W.Frag) (i j : Nat) : TG := gTup K 2 (gCons (gName i) (gCons (gName j) gNil))
abbrev tXor (i j : Nat) : TE := tOp (rI (fun _ j => 0 < j) fun i j => .int (i % j)) (tOp (rI0 fun i j => .int (i + j)) (tVar i) (tVar j)) (tC (.int 2))
section
variable {w : World} {K : PySem.W.Frag} {mg : Str → Option Value} {base : Heap}
abbrev nMade : List Str := ["lamps", "still", "found", "hands", "bits", "each", "one", "other"]
theorem scMade : FnScope nMade ["lamps"] (defScope sMade) := ⟨rfl, rfl, rfl, by decide +kernel, rfl, by decide +kernel, by decide +kernel⟩
abbrev scOut : Scope := { kind := .function, names := [(".0", .local), ("each", .local), ("tuple", .globalImplicit), ("zip", .globalImplicit), ("bits", .cell)], isGenerator := false, isCoroutine := false, more := [] }
def madeP (n i : Nat) : List (List Int) := (List.range i).foldl (fun found h => found ++ found.map fun each => List.zipWith xb (gateN n h) each) [List.replicate (n + 1) 0]
theorem madeP_succ (n i : Nat) : madeP n (i + 1) = madeP n i ++ (madeP n i).map fun each => List.zipWith xb (gateN n i) each := by
  unfold madeP
  rw [List.range_succ, List.foldl_append]
  rfl
theorem madeP_len (n i : Nat) : (madeP n i).length = 2 ^ i := by
  induction i with
  | zero => rfl
  | succ i ih => rw [madeP_succ, List.length_append, List.length_map, ih, Nat.pow_succ]; omega
def spMade (K : PySem.W.Frag) : Sp := fun vs H Q _ => ∃ n : Nat, vs = [.int ((n : Int) + 2)] ∧ n ≤ 90 ∧ ∀ F H' xs, Same H H' → H' F = some (.lst xs) → Tps K H' xs (madeF n) → Q (.ref F) H'
theorem x_made (B : Bt mg) (D1 : HasD K mg "is_odd_in" sOddIn) (D2 : HasD K mg "gate_bits" sGate) (D : HasD K mg "made_by_one" sMade) : CalX w K mg base (L2.CX PR w) 3 "made_by_one" sMade ["lamps"] (spMade K) := by
  refine calx_of D scMade (fun kV doc pm an cdv ct us h => by match us, h with | [u1], _ => rfl) (fun vs H Q E h => ?_) (fun f cdv A outer s H vs Q E hr h => ?_)
  · obtain ⟨n, rfl, _⟩ := h; rfl
  · obtain ⟨n, rfl, hn, q⟩ := h
    refine ⟨_, pss_cons (ps_set (i := 1) scMade.nd rfl (.inl rfl) (pe_op op_repZ (pe_tup (pa_cons pe_int pa_nil)) (pe_op op_sub (pv 0) pe_int)))
      (pss_cons (ps_set (i := 2) scMade.nd rfl (.inl rfl) (pe_lst (pa_cons (pv 1) pa_nil)))
      (pss_cons (ps_for (passes_of rfl) rfl (pi_range1 (by rfl) B.range (pa_cons (pe_op op_add (pe_callB (call_min2 rfl) (by rfl) B.min boot_min (pa_cons pe_int (pa_cons (pe_op op_sub (pv 0) pe_int) pa_nil))) pe_int) pa_nil))
          (pg_name (i := 3) scMade.nd rfl (.inl rfl))
          (pss_cons (ps_set (i := 4) scMade.nd rfl (.inr rfl) (pe_cx (x_gate B D1 D2) hr (by decide) passL (pa_cons (pv 0) (pa_cons (pv 3) pa_nil))))
          (pss_one (ps_set (i := 2) scMade.nd rfl (.inl rfl) (pe_op op_cat (pv 2) (pe_lc (own := [("each", 5)]) (te := tThen (tLc (RZ.iZipA K (tCons (tVar 4) (tCons (tVar 5) tNil))) (gPair K 6 7) tYes (tXor 6 7) [6, 7]) (kTup K)) rfl scMade.nd (pi_list (pv 2)) (blk_by (N := nMade) (sc := defScope sMade) (by decide +kernel))
            (fun _ _ _ _ _ => pg_name (i := 5) scMade.nd rfl (.inl rfl)) (fun _ _ _ _ _ => pts_nil)
            (fun _ _ _ _ _ => pe_tupleOf (by rfl) B.tuple (pe_lc (own := [("one", 6), ("other", 7)]) (g := gPair K 6 7) rfl scMade.nd (RZ.pi_zipA (by rfl) B.zip (pa_cons (pv 4) (pa_cons (pv 5) pa_nil)))
              (blk_by (N := nMade) (sc := scOut) (by decide +kernel))
              (fun _ _ _ _ _ => pg_tup rfl (pgs_cons (pg_name (i := 6) scMade.nd rfl (.inl rfl)) (pgs_cons (pg_name (i := 7) scMade.nd rfl (.inl rfl)) pgs_nil))) (fun _ _ _ _ _ => pts_nil)
              (fun _ _ _ _ _ => pe_op op_mod (pe_op op_add (pv 6) (pv 7)) pe_int)))))))))
      (pss_one (ps_ret (pv 2))))), ?_⟩
    refine ⟨by decide, fun a na => ?_⟩
    refine ⟨.int ((n : Int) + 2), rfl, _, 1, rfl, rfl, a, _, [.int 0], rfl, rfl, SqT.of upd_same, by simp, by omega, by omega, by simp, fun t H1 s1 ht => ?_⟩
    refine ⟨.ref t, rfl, line_small (by simp), fun F nF => ?_⟩
    have er : (List.replicate (Int.toNat ((n : Int) + 2 - 1)) [V.int 0]).flatten = (List.replicate (n + 1) (0 : Int)).map V.int := by
      rw [show Int.toNat ((n : Int) + 2 - 1) = n + 1 by omega]
      exact rep_flat (n + 1)
    rw [er] at ht
    have en : (if ((n : Int) + 2 - 2) < 1 then ((n : Int) + 2 - 2) else 1) + 1 = ((min 1 n + 1 : Nat) : Int) := by
      split <;> omega
    refine ⟨.int ((n : Int) + 2), rfl, _, 2, rfl, rfl, 1, _, rfl, _, 1, rfl, rfl, _, rfl, ?_, ?_, ?_⟩
    · rw [en]; omega
    · rw [en]; omega
    rw [en, Int.toNat_natCast]
    have S0 : Same H (upd H1 F (.lst [.ref t])) := (same_upd na).trans (s1.trans (same_upd nF))
    refine for_it walk_range (fun i σ Hc => ∃ (Fi : Addr) (xs : List V) (y3 y4 : Option V), σ = [some (.int ((n : Int) + 2)), some (.ref t), some (.ref Fi), y3, y4, none, none, none] ∧ Same H Hc ∧ Hc Fi = some (.lst xs) ∧ Tps K Hc xs (madeP n i))
      ⟨F, [.ref t], none, none, rfl, S0, upd_same, .cons ⟨t, rfl, Same.seqT (same_upd nF) ht⟩ .nil⟩ (fun _ _ _ _ _ => True.intro) (fun i x σ Hc Hc' hi p y => ?_) (fun σ Hc p => ?_)
    · obtain ⟨Fi, xs, y3, y4, rfl, sc, eF, tp⟩ := p
      obtain ⟨rfl, rfl⟩ := y
      have hi1 : i ≤ n := by omega
      refine ⟨.int ((n : Int) + 2), rfl, .int (0 + (i : Int)), rfl, n, i, by rw [Int.zero_add]; rfl, by omega, hi1, fun g H2 s2 hg => ?_⟩
      refine ⟨.ref Fi, rfl, .ref Fi, rfl, Fi, rfl, ⟨_, .inl (.inl (s2 _ _ eF))⟩, fun D nD => ?_⟩
      have tp2 := Tps.same s2 tp
      refine lc_rel walk_list (fun j v Hx => ∀ b, ((madeP n i).map fun each => List.zipWith xb (gateN n i) each)[j]? = some b → TupI K Hx v b) (fun j v Hx Hy e r b eb => TupI.same e (r b eb)) nD (line_lt (by rw [tp.length, madeP_len]; rcases (show i = 0 ∨ i = 1 by omega) with rfl | rfl <;> decide))
        (fun _ sm => .inl (.inl (sm _ _ (s2 _ _ eF)))) (fun j v Hx o _ r ⟨l, e⟩ b eb => TupI.upd e (r b eb)) (fun j x Ha Hb hj sa yy Q' kk => ?_) (fun Hd ys sd ed ly ry => ?_)
      · obtain ⟨rfl, yx⟩ := yy
        obtain ⟨b, eb, tx⟩ := Tps.at (Tps.same sa tp2) j x yx
        obtain ⟨tt, rfl, htt⟩ := tx
        have hgb := Same.seqT sa hg
        refine ⟨rfl, .ref g, rfl, .ref tt, rfl, g, tt, _, _, rfl, .inr ⟨hgb, htt, fun D2 nD2 => ?_⟩⟩
        refine lc_map (walk_zipT (n := min (gateN n i).length b.length) (by simp)) (fun m => .int (xb ((gateN n i).getD m 0) (b.getD m 0))) nD2 (line_lt (by rw [gateN_length hi1]; omega)) (fun _ sm => ⟨Same.seqT sm hgb, Same.seqT sm htt⟩) (fun m x Hm Hn hm sm zz Q2 k2 => ?_) (fun He se ee => ?_)
        · obtain ⟨T, x1, x2, rfl, nT, rfl, f1, f2⟩ := zz
          have g1 := map_get f1
          have g2 := map_get f2
          subst g1 g2
          exact ⟨T, _, rfl, SqT.of upd_same, rfl, _, _, rfl, _, _, rfl, rfl, rfl, _, rfl, _, rfl, _, _, rfl, rfl, _, 2, rfl, rfl, (show (0 : Int) < 2 by decide), k2 _ (same_upd nT)⟩
        · rw [zw_map] at ee
          refine .inl ⟨D2, _, rfl, .inl (.inl ee), fun p np => kk _ _ (se.trans (same_upd np)) fun b' eb' => ⟨p, rfl, ?_⟩⟩
          rw [List.getElem?_map, eb] at eb'
          cases Option.some.inj eb'
          exact SqT.of upd_same
      · refine ⟨Fi, D, xs, ys, rfl, rfl, sd _ _ (s2 _ _ eF), ed, line_small (by rw [ly, tp.length, madeP_len]; rcases (show i = 0 ∨ i = 1 by omega) with rfl | rfl <;> decide), fun p np => ?_⟩
        refine ⟨p, xs ++ ys, _, _, rfl, sc.trans (s2.trans (sd.trans (same_upd np))), upd_same, ?_⟩
        rw [madeP_succ]
        exact Tps.append (Tps.same (sd.trans (same_upd np)) tp2) (Tps.same (same_upd np) (tps_ix (by rw [ly, List.length_map, tp.length]) fun j y ey b eb => ry j y ey b eb))
    · obtain ⟨Fi, xs, y3, y4, rfl, sc, eF, tp⟩ := p
      exact ⟨.ref Fi, rfl, q Fi Hc xs sc eF tp⟩
end
end K60
set_option maxHeartbeats 4000000
namespace K60
open PySem PySem.Spec PyProof.Rows L2
def OptT (K : PySem.W.Frag) (H : Hp) (v : V) : Option (List Int) → Prop
  | none => v = .non
  | some b => TupI K H v b
theorem OptT.same {K : PySem.W.Frag} {H H' : Hp} {v : V} (e : Same H H') : ∀ {o : Option (List Int)}, OptT K H v o → OptT K H' v o
  | none, h => h
  | some _, h => TupI.same e h
theorem OptT.upd {K : PySem.W.Frag} {H : Hp} {v : V} {D : Addr} {l : List V} {x : HO} (e : H D = some (.lst l)) : ∀ {o : Option (List Int)}, OptT K H v o → OptT K (upd H D x) v o
  | none, h => h
  | some _, h => TupI.upd e h
def notN (v : V) : Bool := !decide (v = .non)
theorem opt_filter {K : PySem.W.Frag} {H : Hp} (g : List Int → Option (List Int)) : ∀ {xs : List V} {ms : List (List Int)}, xs.length = ms.length → (∀ (i : Nat) (x : V) (m : List Int), xs[i]? = some x → ms[i]? = some m → OptT K H x (g m)) → Tps K H (xs.filter notN) (ms.filterMap g)
  | [], [], _, _ => .nil
  | [], _ :: _, h, _ => by simp at h
  | _ :: _, [], h, _ => by simp at h
  | x :: xs, m :: ms, h, k => by
    have ih := opt_filter g (xs := xs) (ms := ms) (by simpa using h) fun i y c e q => k (i + 1) y c e q
    have h0 := k 0 x m rfl rfl
    cases e : g m with
    | none =>
      rw [e] at h0
      have h0 : x = .non := h0
      subst h0
      rw [List.filterMap_cons_none e, List.filter_cons_of_neg (by decide)]
      exact ih
    | some b =>
      rw [e] at h0
      have h1 : notN x = true := by
        obtain ⟨t, rfl, _⟩ := h0
        rfl
      rw [List.filterMap_cons_some e, List.filter_cons_of_pos h1]
      exact .cons h0 ih
theorem filt_ix (xs : List V) : (((List.range xs.length).filter fun i => notN (xs.getD i .non)).map fun i => xs.getD i .non) = xs.filter notN := by
  have e : (List.range xs.length).map (fun i => xs.getD i .non) = xs := by
    apply List.ext_getElem?
    intro i
    by_cases hi : i < xs.length
    · rw [List.getElem?_map, List.getElem?_range hi, List.getElem?_eq_getElem hi]
      simp [hi]
    · rw [List.getElem?_eq_none (by simp; omega), List.getElem?_eq_none (by omega)]
  conv => rhs; rw [← e]
  rw [List.filter_map]
  rfl
theorem choices_in_ok {p : List Int} (b : Int) (hb : b = 0 ∨ b = 1) : (∀ x ∈ (madeF p.length).filterMap (fun m => freeF p m b), Bits x ∧ x.length = p.length) ∧ ((madeF p.length).filterMap (fun m => freeF p m b)).length ≤ 4 ∧ (2 ≤ ((madeF p.length).filterMap (fun m => freeF p m b)).length → 1 ≤ p.length) := by
  obtain ⟨h1, h2⟩ := madeF_ok p.length
  refine ⟨fun x hx => ?_, Nat.le_trans (List.length_filterMap_le _ _) h2, fun h => ?_⟩
  · obtain ⟨m, hm, e⟩ := List.mem_filterMap.mp hx
    unfold freeF at e
    by_cases q : mixF p (freeC p m b) b = m
    · rw [if_pos q] at e
      cases e
      exact ⟨freeC_bits _ _ _, freeC_length (h1 m hm).2 _⟩
    · rw [if_neg q] at e
      cases e
  · cases p with
    | nil =>
      exfalso
      have : ((madeF ([] : List Int).length).filterMap (fun m => freeF [] m b)).length = 1 := by rcases hb with rfl | rfl <;> decide +kernel
      omega
    | cons x p => simp
section
variable {w : World} {K : PySem.W.Frag} {mg : Str → Option Value} {base : Heap}
abbrev nChoices : List Str := ["parities", "burns", "some", "mixed", "free"]
theorem scChoices : FnScope nChoices ["parities", "burns"] (defScope sChoices) := ⟨rfl, rfl, rfl, by decide +kernel, rfl, by decide +kernel, by decide +kernel⟩
def spChoices (K : PySem.W.Frag) : Sp := fun vs H Q _ => ∃ (a : Addr) (ps : List Int) (k : Int), vs = [.ref a, .int k] ∧ SqT K H a (ps.map V.int) ∧ ps.length ≤ 59 ∧ (k = 0 ∨ k = 1) ∧ ∀ q H' xs, Same H H' → SqT K H' q xs → Tps K H' xs (choicesF ps k) → Q (.ref q) H'
theorem x_choices (B : Bt mg) (D1 : HasD K mg "is_odd_in" sOddIn) (D2 : HasD K mg "gate_bits" sGate) (D3 : HasD K mg "made_by_one" sMade) (D4 : HasD K mg "mixed_in" sMixedIn) (D5 : HasD K mg "free_in" sFreeIn) (D : HasD K mg "choices_in" sChoices) :
    CalX w K mg base (L2.CX PR w) 4 "choices_in" sChoices ["parities", "burns"] (spChoices K) := by
  refine calx_of D scChoices (fun kV doc pm an cdv ct us h => by match us, h with | [u1, u2], _ => rfl) (fun vs H Q E h => ?_) (fun f cdv A outer s H vs Q E hr h => ?_)
  · obtain ⟨a, ps, k, rfl, _⟩ := h; rfl
  · obtain ⟨a, ps, k, rfl, ha, la, hk, q⟩ := h
    refine ⟨_, pss_cons (ps_setLc (i := 2) (own := [("mixed", 3)]) (te := tCall (spFreeIn K) [] E0 (tCons (tVar 0) (tCons (tVar 3) (tCons (tVar 1) tNil)))) rfl scChoices.nd rfl rfl (by rfl)
        (pi_list (pe_cx (x_made B D1 D2 D3) hr (by decide) passL (pa_cons (pe_op op_add (pe_callB call_len_seq (by rfl) B.len PySem.boot_len (pa_cons (pv 0) pa_nil)) pe_int) pa_nil))) (blk_by (N := nChoices) (sc := defScope sChoices) (by decide +kernel))
        (fun _ _ _ _ _ => pg_name (i := 3) scChoices.nd rfl (.inl rfl)) (fun _ _ _ _ _ => pts_nil)
        (fun _ _ _ _ _ => pe_cx (x_freeIn B D4 D5) hr (by decide) passL (pa_cons (pv 0) (pa_cons (pv 3) (pa_cons (pv 1) pa_nil)))))
      (pss_one (ps_ret (pe_tupleOf (by rfl) B.tuple (pe_callB cr_sortedB (by rfl) B.sorted boot_sorted (pa_cons (pe_lc (own := [("free", 4)]) rfl scChoices.nd (pi_list (pv 2)) (blk_by (N := nChoices) (sc := defScope sChoices) (by decide +kernel))
        (fun _ _ _ _ _ => pg_name (i := 4) scChoices.nd rfl (.inl rfl)) (fun _ _ _ _ _ => pts_one (pt_cmpR op_notN (pv 4) pe_non (nomark _))) (fun _ _ _ _ _ => pv 4)) pa_nil))))), ?_⟩
    refine ⟨.ref a, rfl, a, _, rfl, .inr ha, _, 2, rfl, rfl, ps.length, by simp, by omega, fun F H1 xs s1 eF tp => ?_⟩
    refine ⟨F, rfl, ⟨_, .inl (.inl eF)⟩, fun D nD => ?_⟩
    obtain ⟨m1, m2⟩ := madeF_ok ps.length
    refine lc_rel walk_list (fun i v Hx => ∀ m, (madeF ps.length)[i]? = some m → OptT K Hx v (freeF ps m k)) (fun j v Hx Hy e r b eb => OptT.same e (r b eb)) nD (line_lt (by rw [tp.length]; omega)) (fun _ sm => .inl (.inl (sm _ _ eF))) (fun j v Hx o _ r ⟨l, e⟩ b eb => OptT.upd e (r b eb)) (fun j x Ha Hb hj sa yy Q' kk => ?_) (fun Hd ys sd ed ly ry => ?_)
    · obtain ⟨rfl, yx⟩ := yy
      obtain ⟨m, em, tx⟩ := Tps.at (Tps.same sa tp) j x yx
      obtain ⟨t, rfl, ht⟩ := tx
      refine ⟨rfl, .ref a, rfl, .ref t, rfl, .int k, rfl, a, t, ps, m, k, rfl, Same.seqT (s1.trans sa) ha, ht, by omega, (m1 m (List.mem_of_getElem? em)).2, fun e H' s' => kk _ _ s' fun b eb => ?_, fun fr e q' H' s' hq => kk _ _ s' fun b eb => ?_⟩
      · rw [em] at eb
        cases Option.some.inj eb
        rw [e]
        rfl
      · rw [em] at eb
        cases Option.some.inj eb
        rw [e]
        exact ⟨q', rfl, hq⟩
    · refine ⟨.ref D, rfl, D, rfl, ⟨_, .inl (.inl ed)⟩, fun G nG => ?_⟩
      refine lc_filt walk_list (fun i => notN (ys.getD i .non)) (fun i => ys.getD i .non) nG (line_lt (by rw [ly, tp.length]; omega)) (fun _ sm => .inl (.inl (sm _ _ ed))) (fun j x Ha Hb hj sa yy Qa Qn ka kn => ?_) (fun He se ee => ?_)
      · obtain ⟨rfl, yx⟩ := yy
        have hx : x = ys.getD j .non := by rw [List.getD_eq_getElem?_getD, yx]; rfl
        refine ⟨rfl, x, rfl, rfl, _, rfl, ite2 (fun e => ⟨x, rfl, ?_⟩) (fun e => ?_)⟩
        · have k1 := ka (by rw [← hx]; exact e) Hb (Same.refl _)
          rw [← hx] at k1
          exact k1
        · exact kn (by rw [← hx]; simpa [notN] using e) Hb (Same.refl _)
      · rw [filt_ix] at ee
        obtain ⟨c1, c2, c3⟩ := choices_in_ok (p := ps) k hk
        have T0 : Tps K He (ys.filter notN) ((madeF ps.length).filterMap fun m => freeF ps m k) := opt_filter (fun m => freeF ps m k) (by rw [ly, tp.length]) fun i x m ex em => OptT.same se (ry i x ex m em)
        refine ⟨G, _, _, ps.length, rfl, .inl (.inl (.inl ee)), T0, by omega, c3, c1, fun zs p np tz => ?_⟩
        refine .inl ⟨p, zs, rfl, .inl (.inl upd_same), fun r nr => ?_⟩
        exact q r _ zs ((s1.trans sd).trans (se.trans ((same_upd np).trans (same_upd nr)))) (SqT.of upd_same) (Tps.same ((same_upd np).trans (same_upd nr)) tz)
end
end K60
set_option maxHeartbeats 4000000
namespace K60
open PySem PySem.Spec PyProof.Rows L2
/-- bits that the defs take -/
def Good (K : PySem.W.Frag) (H : Hp) (v : V) (ns : List Int) : Prop := ∃ a, v = .ref a ∧ Seq K H a (ns.map V.int) ∧ Bits ns ∧ ns.length ≤ 59
theorem Good.same {K : PySem.W.Frag} {H H' : Hp} {v : V} {ns : List Int} (h : Good K H v ns) (s : Same H H') : Good K H' v ns := by
  obtain ⟨a, e, q, b⟩ := h
  exact ⟨a, e, q.same s, b⟩
section
variable {w : World} {K : PySem.W.Frag} {mg : Str → Option Value} {base : Heap}
abbrev nKnown : List Str := ["parities", "free", "burns", "kept", "its"]
theorem scKnown : FnScope nKnown ["parities", "free", "burns"] (defScope sKnown) := ⟨rfl, rfl, rfl, by decide +kernel, rfl, by decide +kernel, by decide +kernel⟩
def spKnown (K : PySem.W.Frag) (C : Addr) : Sp := fun vs H Q E => ∃ vp vf vb, vs = [vp, vf, vb] ∧ ((NotBits K H vp ∧ Bad C "parities" H E) ∨ ∃ ps, Good K H vp ps ∧ ((NotBits K H vf ∧ Bad C "free" H E) ∨ ∃ fs, Good K H vf fs ∧
  ((fs.length ≠ ps.length ∧ Bad C "free" H E) ∨ (fs.length = ps.length ∧ ((Pl K H vb ∧ inB vb = false ∧ Bad C "burns" H E) ∨ ∃ k, vb = .int k ∧ (k = 0 ∨ k = 1) ∧ ∀ q H', Same H H' → SqT K H' q ((mixF ps fs k).map V.int) → Q (.ref q) H')))))
theorem x_known {C fI : Addr} (T : NumTxt K mg C fI) (B : Bt mg) (D1 : HasD K mg "is_integer" sIsInt) (D2 : HasD K mg "is_within" sWithin) (D3 : HasD K mg "is_list" sIsList) (D4 : HasD K mg "need_bits" sNeedBits) (D5 : HasD K mg "need_number" sNeedNum) (D6 : HasD K mg "need_burns" sNeedBurns) (D7 : HasD K mg "mixed_in" sMixedIn)
    (D : HasD K mg "known_parities" sKnown) : CalX w K mg base (L2.CX PR w) 5 "known_parities" sKnown ["parities", "free", "burns"] (spKnown K C) := by
  refine calx_of D scKnown (fun kV doc pm an cdv ct us h => by match us, h with | [u1, u2, u3], _ => rfl) (fun vs H Q E h => ?_) (fun f cdv A outer s H vs Q E hr h => ?_)
  · obtain ⟨a, b, c, rfl, _⟩ := h; rfl
  · obtain ⟨vp, vf, vb, rfl, h⟩ := h
    refine ⟨_, pss_cons (ps_par (i := 3) (j := 4) rfl scKnown.nd rfl rfl (by decide) rfl rfl
        (pa_cons (pe_cx (E := E) (x_needBits T B D1 D2 D3 D4) hr (by decide) (passes_call (takes_of rfl rfl rfl rfl) fun _ _ _ _ h => h) (pa_cons (pv 0) (pa_cons pe_str pa_nil)))
          (pa_cons (pe_cx (E := E) (x_needBits T B D1 D2 D3 D4) hr (by decide) (passes_call (takes_of rfl rfl rfl rfl) fun _ _ _ _ h => h) (pa_cons (pv 1) (pa_cons pe_str pa_nil))) pa_nil)) (by rfl))
      (pss_cons (ps_if (pt_cmpR op_ne (pe_callB call_len_seq (by rfl) B.len PySem.boot_len (pa_cons (pv 4) pa_nil)) (pe_callB call_len_seq (by rfl) B.len PySem.boot_len (pa_cons (pv 3) pa_nil)) (nomark _))
        (pss_one (ps_raiseNum rfl rfl T hr (takes_of rfl rfl rfl rfl) (pa_cons pe_str pa_nil))) pss_nil)
      (pss_cons (ps_expr (pe_cx (E := E) (x_needBurns T B D1 D2 D5 D6) hr (by decide) (passes_call (takes_of rfl rfl rfl rfl) fun _ _ _ _ h => h) (pa_cons (pv 2) pa_nil)))
      (pss_one (ps_ret (pe_cx (x_mixedIn B D7) hr (by decide) passL (pa_cons (pv 3) (pa_cons (pv 4) (pa_cons (pv 2) pa_nil)))))))), ?_⟩
    rcases h with ⟨nb, bd⟩ | ⟨ps, gp, h⟩
    · exact ⟨vp, rfl, vp, "parities", rfl, .inr ⟨nb, bd⟩⟩
    · obtain ⟨ap, rfl, sp, bp, lp⟩ := gp
      refine ⟨.ref ap, rfl, .ref ap, "parities", rfl, .inl ⟨ap, ps, rfl, sp, bp, lp, fun q1 H1 s1 h1 => ?_⟩⟩
      rcases h with ⟨nb, bd⟩ | ⟨fs, gf, h⟩
      · exact ⟨vf, rfl, vf, "free", rfl, .inr ⟨nb.same s1, bd.same s1⟩⟩
      · obtain ⟨af, rfl, sf, bf, lf⟩ := gf
        refine ⟨.ref af, rfl, .ref af, "free", rfl, .inl ⟨af, fs, rfl, sf.same s1, bf, lf, fun q2 H2 s2 h2 => ?_⟩⟩
        refine ⟨.ref q1, .ref q2, rfl, ?_⟩
        refine ⟨.ref q2, rfl, q2, _, rfl, .inr h2, .ref q1, rfl, q1, _, rfl, .inr (Same.seqT s2 h1), rfl, _, rfl, ?_⟩
        have ed : decide (V.int (((fs.map V.int).length : Nat) : Int) = V.int (((ps.map V.int).length : Nat) : Int)) = decide (fs.length = ps.length) := by
          rw [List.length_map, List.length_map]
          by_cases e : fs.length = ps.length
          · rw [e]; simp
          · rw [decide_eq_false e]
            exact decide_eq_false fun z => e (Int.ofNat.inj (V.int.inj z))
        rw [ed]
        rcases h with ⟨ne, bd⟩ | ⟨el, h⟩
        · rw [decide_eq_false ne]
          exact ⟨.str "free", rfl, fun d nd => bd _ d ((s1.trans s2).trans (same_upd nd)) upd_same⟩
        · rw [decide_eq_true el]
          rcases h with ⟨pl, ib, bd⟩ | ⟨k, rfl, hk, q⟩
          · exact ⟨vb, rfl, vb, rfl, pl.same (s1.trans s2), fun z => (by rw [ib] at z; cases z), fun _ => bd.same (s1.trans s2)⟩
          · refine ⟨.int k, rfl, .int k, rfl, .int k, fun _ => ?_, fun z => ?_⟩
            · exact ⟨.ref q1, rfl, .ref q2, rfl, .int k, rfl, q1, q2, ps, fs, k, rfl, Same.seqT s2 h1, h2, by omega, by omega, fun r H3 s3 h3 => q r H3 ((s1.trans s2).trans s3) h3⟩
            · rcases hk with rfl | rfl <;> cases z
abbrev nFreeCh : List Str := ["parities", "burns", "kept"]
theorem scFreeCh : FnScope nFreeCh ["parities", "burns"] (defScope sFreeCh) := ⟨rfl, rfl, rfl, by decide +kernel, rfl, by decide +kernel, by decide +kernel⟩
def spFreeCh (K : PySem.W.Frag) (C : Addr) : Sp := fun vs H Q E => ∃ vp vb, vs = [vp, vb] ∧ ((NotBits K H vp ∧ Bad C "parities" H E) ∨ ∃ ps, Good K H vp ps ∧
  ((Pl K H vb ∧ inB vb = false ∧ Bad C "burns" H E) ∨ ∃ k, vb = .int k ∧ (k = 0 ∨ k = 1) ∧ ∀ q H' xs, Same H H' → SqT K H' q xs → Tps K H' xs (choicesF ps k) → Q (.ref q) H'))
theorem x_freeCh {C fI : Addr} (T : NumTxt K mg C fI) (B : Bt mg) (D1 : HasD K mg "is_integer" sIsInt) (D2 : HasD K mg "is_within" sWithin) (D3 : HasD K mg "is_list" sIsList) (D4 : HasD K mg "need_bits" sNeedBits) (D5 : HasD K mg "need_number" sNeedNum) (D6 : HasD K mg "need_burns" sNeedBurns) (D7 : HasD K mg "mixed_in" sMixedIn)
    (E1 : HasD K mg "is_odd_in" sOddIn) (E2 : HasD K mg "gate_bits" sGate) (E3 : HasD K mg "made_by_one" sMade) (E5 : HasD K mg "free_in" sFreeIn) (E6 : HasD K mg "choices_in" sChoices)
    (D : HasD K mg "free_choices" sFreeCh) : CalX w K mg base (L2.CX PR w) 5 "free_choices" sFreeCh ["parities", "burns"] (spFreeCh K C) := by
  refine calx_of D scFreeCh (fun kV doc pm an cdv ct us h => by match us, h with | [u1, u2], _ => rfl) (fun vs H Q E h => ?_) (fun f cdv A outer s H vs Q E hr h => ?_)
  · obtain ⟨a, b, rfl, _⟩ := h; rfl
  · obtain ⟨vp, vb, rfl, h⟩ := h
    refine ⟨_, pss_cons (ps_set (i := 2) scFreeCh.nd rfl (.inl rfl) (pe_cx (E := E) (x_needBits T B D1 D2 D3 D4) hr (by decide) (passes_call (takes_of rfl rfl rfl rfl) fun _ _ _ _ h => h) (pa_cons (pv 0) (pa_cons pe_str pa_nil))))
      (pss_cons (ps_expr (pe_cx (E := E) (x_needBurns T B D1 D2 D5 D6) hr (by decide) (passes_call (takes_of rfl rfl rfl rfl) fun _ _ _ _ h => h) (pa_cons (pv 1) pa_nil)))
      (pss_one (ps_ret (pe_cx (x_choices B E1 E2 E3 D7 E5 E6) hr (by decide) passL (pa_cons (pv 2) (pa_cons (pv 1) pa_nil)))))), ?_⟩
    rcases h with ⟨nb, bd⟩ | ⟨ps, gp, h⟩
    · exact ⟨vp, rfl, vp, "parities", rfl, .inr ⟨nb, bd⟩⟩
    · obtain ⟨ap, rfl, sp, bp, lp⟩ := gp
      refine ⟨.ref ap, rfl, .ref ap, "parities", rfl, .inl ⟨ap, ps, rfl, sp, bp, lp, fun q1 H1 s1 h1 => ?_⟩⟩
      rcases h with ⟨pl, ib, bd⟩ | ⟨k, rfl, hk, q⟩
      · exact ⟨vb, rfl, vb, rfl, pl.same s1, fun z => (by rw [ib] at z; cases z), fun _ => bd.same s1⟩
      · refine ⟨.int k, rfl, .int k, rfl, .int k, fun _ => ?_, fun z => ?_⟩
        · exact ⟨.ref q1, rfl, .int k, rfl, q1, ps, k, rfl, h1, lp, hk, fun r H3 xs s3 h3 t3 => q r H3 xs (s1.trans s3) h3 t3⟩
        · rcases hk with rfl | rfl <;> cases z
end
/-! ### by keywords -/
section
variable {X : Cx} {CX : CXT} {k j : Nat} {x : Str} {st : Stmt} {ps ks : List Str} {sp : Sp} {E : XK} {p pos : Pos} {kws : List Keyword} {tk : TA} {w : World} {K : PySem.W.Frag} {mg : Str → Option Value} {base : Heap} {g : List Value → List Value → List Value} {gV : List V → List V → List V}
theorem pe_kwx (c : CalX w K mg base CX k x st ps sp) (hb : ∀ f fd, FunD K x x (defArgs st) (defBody st) (defScope st) [] [] f fd → KBinds K fd ps ks g gV) (hr : Room j X.A) (hk : k ≤ j) (hx : Passes CX X E) (hkw : PK X kws tk) (hg : Gl X x := by rfl) (h1 : X.prog = PR := by rfl) (h2 : X.w = w := by rfl) (h3 : X.K = K := by rfl) (h4 : X.mg = mg := by rfl) (h5 : X.base = base := by rfl)
    (hall : (backToKw pos (keywordEach kws X.env)).all (·.1.isSome) = true := by rfl) (hks : (backToKw pos (keywordEach kws X.env)).filterMap (·.1) = ks := by rfl)
    (hdb : (x == ("__debug__" : Str)) = false := by decide)
    (hpl : ((backTo pos (starEach [] X.env)).any (·.1) || (backToKw pos (keywordEach kws X.env)).any (·.1.isNone)) = false := by rfl) :
    PE X (.Call (.Name x p) [] kws pos) (tKw sp gV E tk) := by
  subst h2 h3 h4 h5
  obtain ⟨f, fd, F, ok, hm, _⟩ := c.ex
  have ok' : FnOk X.prog X.w X.K X.mg X.base CX k f fd ps sp := by rw [h1]; exact ok
  exact pe_kw ok' (hr.mono hk) hg hm F.kp (hb f fd F) hx hkw hall hks hdb hpl
end
def g3 {α : Type} : List α → List α → List α
  | [], [a, b, c] => [c, b, a]
  | _, _ => []
def g2 {α : Type} : List α → List α → List α
  | [], [a, b] => [b, a]
  | _, _ => []
theorem g3_rel {vs : List V} {us : List Value} {zs : List V} {ws : List Value} (r : Vals vs us) (q : Vals zs ws) : Vals (g3 vs zs) (g3 us ws) := by
  cases r with
  | nil =>
    cases q with
    | nil => exact .nil
    | cons r1 q =>
      cases q with
      | nil => exact .nil
      | cons r2 q =>
        cases q with
        | nil => exact .nil
        | cons r3 q =>
          cases q with
          | nil => exact .cons r3 (.cons r2 (.cons r1 .nil))
          | cons r4 q => exact .nil
  | cons r1 r => exact .nil
theorem g2_rel {vs : List V} {us : List Value} {zs : List V} {ws : List Value} (r : Vals vs us) (q : Vals zs ws) : Vals (g2 vs zs) (g2 us ws) := by
  cases r with
  | nil =>
    cases q with
    | nil => exact .nil
    | cons r1 q =>
      cases q with
      | nil => exact .nil
      | cons r2 q =>
        cases q with
        | nil => exact .cons r2 (.cons r1 .nil)
        | cons r3 q => exact .nil
  | cons r1 r => exact .nil
theorem kb_known {K : PySem.W.Frag} (f : Addr) (fd : FuncData) (F : FunD K "known_parities" "known_parities" (defArgs sKnown) (defBody sKnown) (defScope sKnown) [] [] f fd) : KBinds K fd ["parities", "free", "burns"] ["burns", "free", "parities"] g3 g3 := by
  obtain ⟨oc, od, dV, kV, doc, pm, an, cdv, ct, osl, rfl, lk, hcd, df, _⟩ := F.ex
  rcases df with ⟨_, e⟩ | ⟨n, _⟩
  · subst e
    refine ⟨fun s us ws _ hl => ?_, g3_rel⟩
    match us, ws, hl with
    | [], [a, b, c], _ => exact .of_eq (by rfl)
  · exact absurd rfl n
theorem kb_freeCh {K : PySem.W.Frag} (f : Addr) (fd : FuncData) (F : FunD K "free_choices" "free_choices" (defArgs sFreeCh) (defBody sFreeCh) (defScope sFreeCh) [] [] f fd) : KBinds K fd ["parities", "burns"] ["burns", "parities"] g2 g2 := by
  obtain ⟨oc, od, dV, kV, doc, pm, an, cdv, ct, osl, rfl, lk, hcd, df, _⟩ := F.ex
  rcases df with ⟨_, e⟩ | ⟨n, _⟩
  · subst e
    refine ⟨fun s us ws _ hl => ?_, g2_rel⟩
    match us, ws, hl with
    | [], [a, b], _ => exact .of_eq (by rfl)
  · exact absurd rfl n
end K60
set_option maxHeartbeats 4000000
namespace K60
open PySem PySem.Spec PyProof.Rows L2
/-! ### the lantern: a list at L that is written; all else stays -/
structure LanB (H : Hp) (L c : Addr) (n : Nat) : Prop where
  ex : ∃ (cs : List Int) (turn left : Int), H L = some (.lst [.ref c, .int turn, .int left]) ∧ H c = some (.lst (cs.map V.int)) ∧ cs.length ≤ 59 ∧ 0 ≤ turn ∧ turn ≤ (n : Int) ∧ 0 ≤ left
def LSame (L : Addr) (H H' : Hp) : Prop := ∀ b o, b ≠ L → H b = some o → H' b = some o
theorem LSame.refl (L : Addr) (H : Hp) : LSame L H H := fun _ _ _ e => e
theorem LSame.trans {L : Addr} {H H1 H2 : Hp} (a : LSame L H H1) (b : LSame L H1 H2) : LSame L H H2 := fun c o n e => b c o n (a c o n e)
theorem LSame.of {L : Addr} {H H' : Hp} (s : Same H H') : LSame L H H' := fun b o _ e => s b o e
theorem LSame.seqL {K : PySem.W.Frag} {L a : Addr} {H H' : Hp} {xs : List V} (s : LSame L H H') (n : a ≠ L) (h : SqL K H a xs) : SqL K H' a xs := by
  rcases h with (h | ⟨o, h⟩) | h
  · exact .inl (.inl (s _ _ n h))
  · exact .inl (.inr ⟨o, s _ _ n h⟩)
  · exact .inr h
theorem LSame.seqT {K : PySem.W.Frag} {L a : Addr} {H H' : Hp} {xs ls : List V} (s : LSame L H H') (e : H L = some (.lst ls)) (h : SqT K H a xs) : SqT K H' a xs := by
  rcases h with (h | ⟨o, h⟩) | h
  · exact .inl (.inl (s _ _ (fun z => by rw [z, e] at h; cases h) h))
  · exact .inl (.inr ⟨o, s _ _ (fun z => by rw [z, e] at h; cases h) h⟩)
  · exact .inr h
theorem LanB.at {H : Hp} {L c : Addr} {n : Nat} (h : LanB H L c n) : ∃ ls, H L = some (.lst ls) := by
  obtain ⟨cs, t, l, e, _⟩ := h.ex
  exact ⟨_, e⟩
theorem LanB.cell {H : Hp} {L c : Addr} {n : Nat} (h : LanB H L c n) : ∃ ls, H c = some (.lst ls) := by
  obtain ⟨cs, t, l, _, e, _⟩ := h.ex
  exact ⟨_, e⟩
theorem LanB.upd {H : Hp} {L c D : Addr} {n : Nat} {o : HO} (h : LanB H L c n) (h1 : D ≠ L) (h2 : D ≠ c) : LanB (upd H D o) L c n := by
  obtain ⟨cs, t, l, e, e2, r⟩ := h.ex
  exact ⟨cs, t, l, by rw [upd_ne (Ne.symm h1)]; exact e, by rw [upd_ne (Ne.symm h2)]; exact e2, r⟩
theorem LanB.same {H H' : Hp} {L c : Addr} {n : Nat} (h : LanB H L c n) (s : Same H H') : LanB H' L c n := by
  obtain ⟨cs, t, l, e, e2, r⟩ := h.ex
  exact ⟨cs, t, l, s _ _ e, s _ _ e2, r⟩
theorem LanB.mono {H : Hp} {L c : Addr} {n m : Nat} (h : LanB H L c n) (hm : n ≤ m) : LanB H L c m := by
  obtain ⟨cs, t, l, e, e2, r1, r2, r3, r4⟩ := h.ex
  exact ⟨cs, t, l, e, e2, r1, r2, by omega, r4⟩
theorem lsame_upd {L : Addr} {H : Hp} {o : HO} : LSame L H (upd H L o) := fun b x n e => by
  rw [upd_ne n]
  exact e
section
variable {w : World} {K : PySem.W.Frag} {mg : Str → Option Value} {base : Heap}
abbrev nLantern : List Str := ["_law_script", "_law_cell"]
theorem scLantern : FnScope nLantern ["_law_script"] (defScope sLantern) := ⟨rfl, rfl, rfl, by decide +kernel, rfl, by decide +kernel, by decide +kernel⟩
def spLantern (K : PySem.W.Frag) : Sp := fun vs H Q _ => ∃ (a : Addr) (ns : List Int), vs = [.ref a] ∧ SqL K H a (ns.map V.int) ∧ ns.length ≤ 1000 ∧ ∀ L c H', Same H H' → H L = none → H c = none → LanB H' L c 0 → Q (.ref L) H'
theorem x_lantern (B : Bt mg) (D : HasD K mg "_law_lantern" sLantern) : CalX w K mg base (L2.CX PR w) 1 "_law_lantern" sLantern ["_law_script"] (spLantern K) := by
  refine calx_of D scLantern (fun kV doc pm an cdv ct us h => by match us, h with | [u1], _ => rfl) (fun vs H Q E h => ?_) (fun f cdv A outer s H vs Q E hr h => ?_)
  · obtain ⟨a, ns, rfl, _⟩ := h; rfl
  · obtain ⟨a, ns, rfl, ha, la, q⟩ := h
    refine ⟨_, pss_one (ps_ret (pe_lst (pa_cons (pe_lc (own := [("_law_cell", 1)]) rfl scLantern.nd (pi_list (pe_slice sl_list (pv 0) po_none (po_some pe_int))) (blk_by (N := nLantern) (sc := defScope sLantern) (by decide +kernel))
      (fun _ _ _ _ _ => pg_name (i := 1) scLantern.nd rfl (.inl rfl)) (fun _ _ _ _ _ => pts_nil) (fun _ _ _ _ _ => pe_callTy call_int1 (by rfl) B.int boot_int (pa_cons (pv 1) pa_nil))) (pa_cons pe_int (pa_cons pe_int pa_nil))))), ?_⟩
    refine ⟨.ref a, rfl, 59, rfl, a, _, rfl, ha, fun c nc => ?_⟩
    refine ⟨c, rfl, ⟨_, .inl (.inl upd_same)⟩, fun D nD => ?_⟩
    have e59 : cutV (ns.map V.int) none (some ((59 : Nat) : Int)) = (ns.take 59).map V.int := by rw [cutTake, List.map_take]
    refine lc_map (walk_list (xs := (ns.take 59).map V.int)) (fun i => .int ((ns.take 59).getD i 0)) nD (line_lt (by simp; omega)) (fun _ sm => .inl (.inl (sm _ _ (by rw [upd_same]; exact congrArg (fun l => some (HO.lst l)) e59)))) (fun i x Ha Hb hi sa yy Q' kk => ?_) (fun Hd sd ed => ?_)
    · obtain ⟨rfl, yx⟩ := yy
      have := map_get yx
      subst this
      exact ⟨rfl, _, rfl, .inl ⟨_, rfl, kk Hb (Same.refl _)⟩⟩
    · refine ⟨line_small (by simp), fun L nL => q L D _ ((same_upd nc).trans (sd.trans (same_upd nL))) (((same_upd nc).trans sd).free nL) ((same_upd nc).free nD) ?_⟩
      refine ⟨ns.take 59, 0, 0, upd_same, ?_, by rw [List.length_take]; omega, by omega, by omega, by omega⟩
      rw [upd_ne (ne_of_none ed nL), ed]
      congr 2
      apply List.ext_getElem?
      intro i
      rw [List.length_map]
      by_cases hi : i < (ns.take 59).length
      · rw [List.getElem?_map, List.getElem?_range hi, List.getElem?_map, List.getElem?_eq_getElem hi]
        simp [List.getD_eq_getElem?_getD, List.getElem?_eq_getElem hi]
      · rw [List.getElem?_eq_none (by simp at hi ⊢; omega), List.getElem?_eq_none (by simp at hi ⊢; omega)]
end
end K60
set_option maxHeartbeats 4000000
namespace K60
open PySem PySem.Spec PyProof.Rows L2
section
variable {w : World} {K : PySem.W.Frag} {mg : Str → Option Value} {base : Heap}
abbrev nFlame : List Str := ["_law_lantern_here", "_law_many", "_law_left", "_law_turn", "_law_cell", "_law_mixed_here"]
theorem scFlame : FnScope nFlame ["_law_lantern_here", "_law_many"] (defScope sFlame) := ⟨rfl, rfl, rfl, by decide +kernel, rfl, by decide +kernel, by decide +kernel⟩
def spFlame : Sp := fun vs H Q _ => ∃ (L c : Addr) (n : Nat) (many : Int), vs = [.ref L, .int many] ∧ LanB H L c n ∧ n < 1000000 ∧ 1 ≤ many ∧ many ≤ 1000 ∧ ∀ r H', 0 ≤ r → r < many → LSame L H H' → LanB H' L c (n + 1) → Q (.int r) H'
theorem at0 {a b c : V} : atI [a, b, c] 0 = some a := atI_nat (j := 0) rfl
theorem at1 {a b c : V} : atI [a, b, c] 1 = some b := atI_nat (j := 1) rfl
theorem at2 {a b c : V} : atI [a, b, c] 2 = some c := atI_nat (j := 2) rfl
theorem x_flame (B : Bt mg) (D : HasD K mg "_law_flame_by" sFlame) : CalX w K mg base (L2.CX PR w) 1 "_law_flame_by" sFlame ["_law_lantern_here", "_law_many"] spFlame := by
  refine calx_of D scFlame (fun kV doc pm an cdv ct us h => by match us, h with | [u1, u2], _ => rfl) (fun vs H Q E h => ?_) (fun f cdv A outer s H vs Q E hr h => ?_)
  · obtain ⟨a, c, n, m, rfl, _⟩ := h; rfl
  · obtain ⟨L, c, n, many, rfl, lan, hn, hm1, hm2, q⟩ := h
    obtain ⟨cs, turn, left, eL, eC, lc, t0, tn, l0⟩ := lan.ex
    refine ⟨_, pss_cons (ps_if (pt_cmpR op_gt (pe_ix ix_list (pv 0) pe_int (fun _ _ => rfl)) pe_int (nomark _))
        (pss_cons (ps_set (i := 2) scFlame.nd rfl (.inl rfl) (pe_callTy call_int1 (by rfl) B.int boot_int (pa_cons (pe_ix ix_list (pv 0) pe_int (fun _ _ => rfl)) pa_nil)))
        (pss_cons (ps_asg (pe_op op_fdiv (pv 2) (pv 1)) (pg_sub (pv 0) pe_int set_list))
        (pss_one (ps_ret (pe_op op_mod (pe_callTy call_int1 (by rfl) B.int boot_int (pa_cons (pv 2) pa_nil)) (pv 1)))))) pss_nil)
      (pss_cons (ps_set (i := 3) scFlame.nd rfl (.inl rfl) (pe_ix ix_list (pv 0) pe_int (fun _ _ => rfl)))
      (pss_cons (ps_asg (pe_op op_add (pv 3) pe_int) (pg_sub (pv 0) pe_int set_list))
      (pss_cons (ps_set (i := 4) scFlame.nd rfl (.inl rfl) (pe_op op_add (pe_op op_mul pe_int (pv 3)) pe_int))
      (Evl.pss_cut (ps_if (pt_cmpR (op_neD hr.units) (pe_ix ix_list (pv 0) pe_int (fun _ _ => rfl)) (pe_lst pa_nil) (nomark _))
        (pss_one (ps_set (i := 4) scFlame.nd rfl (.inl rfl) (pe_ix ix_list (pe_ix ix_list (pv 0) pe_int (fun _ _ => rfl)) (pe_op op_mod (pe_callTy call_int1 (by rfl) B.int boot_int (pa_cons (pv 3) pa_nil)) (pe_callB call_len_seq (by rfl) B.len PySem.boot_len (pa_cons (pe_ix ix_list (pv 0) pe_int (fun _ _ => rfl)) pa_nil))) (fun _ _ => rfl)))) pss_nil)
      (Evl.pss_cut (ps_if (PW.pt (pw_and (pt_cmpR op_lt (pv 3) (pe_callB call_len_seq (by rfl) B.len PySem.boot_len (pa_cons (pe_ix ix_list (pv 0) pe_int (fun _ _ => rfl)) pa_nil)) (nomark _))
          (pw_and1 (pt_cmpR op_ge (pe_callB call_abs (by rfl) B.abs boot_abs (pa_cons (pv 4) pa_nil)) (pe_op op_pow pe_int pe_int) (nomark _)))))
        (pss_cons (ps_set (i := 2) scFlame.nd rfl (.inl rfl) (pe_op op_add (pe_op op_mul pe_int (pe_op op_sub (pe_callB call_abs (by rfl) B.abs boot_abs (pa_cons (pe_callTy call_int1 (by rfl) B.int boot_int (pa_cons (pv 4) pa_nil)) pa_nil)) (pe_op op_pow pe_int pe_int)))
            (pe_callTy call_int1 (by rfl) B.int boot_int (pa_cons (pe_cmpR op_lt (pv 4) pe_int (nomark _)) pa_nil))))
        (pss_cons (ps_asg (pe_op op_fdiv (pv 2) (pv 1)) (pg_sub (pv 0) pe_int set_list))
        (pss_one (ps_ret (pe_op op_mod (pe_callTy call_int1 (by rfl) B.int boot_int (pa_cons (pv 2) pa_nil)) (pv 1)))))) pss_nil)
      (Evl.pss_cut (ps_set (i := 5) scFlame.nd rfl (.inl rfl) (pe_op op_mod (pe_callTy call_int1 (by rfl) B.int boot_int (pa_cons (pe_op op_pow (pe_op op_add (pe_op op_add (pe_op op_mod (pe_callTy call_int1 (by rfl) B.int boot_int (pa_cons (pv 4) pa_nil)) pe_int) (pe_op op_mul pe_int (pv 3))) pe_int) pe_int) pa_nil)) pe_int))
      (Evl.pss_cut (ps_set (i := 5) scFlame.nd rfl (.inl rfl) (pe_op op_mod (pe_callTy call_int1 (by rfl) B.int boot_int (pa_cons (pe_op op_pow (pe_op op_add (pe_op op_add (pe_op op_mul (pv 5) (pe_op op_add (pe_op op_mul pe_int (pv 3)) pe_int)) (pe_op op_mul (pe_op op_mul pe_int (pv 3)) (pv 3))) pe_int) pe_int) pa_nil)) pe_int))
      (pss_one (ps_ret (pe_op op_mod (pe_callTy call_int1 (by rfl) B.int boot_int (pa_cons (pe_op op_fdiv (pv 5) pe_int) pa_nil)) (pv 1))))))))))), ?_⟩
    have sL : SqL K H L [.ref c, .int turn, .int left] := .inl (.inl eL)
    -- the end of a wide answer
    have fin : ∀ (l : Int) (H1 : Hp) (tu : Int) (lf : Int), 0 ≤ l → LSame L H H1 → H1 L = some (.lst [.ref c, .int tu, .int lf]) → H1 c = some (.lst (cs.map V.int)) → 0 ≤ tu → tu ≤ ((n + 1 : Nat) : Int) → Q (.int (l % many)) (upd H1 L (.lst [.ref c, .int tu, .int (l / many)])) := fun l H1 tu lf h0 s1 e1 e2 h1 h2 => by
      refine q _ _ (Int.emod_nonneg _ (by omega)) (Int.emod_lt_of_pos _ (by omega)) (s1.trans lsame_upd) ⟨cs, tu, l / many, upd_same, ?_, lc, h1, h2, Int.ediv_nonneg h0 (by omega)⟩
      rw [upd_ne (fun z => by rw [z, e1] at e2; cases cs <;> simp at e2)]
      exact e2
    have ncL : c ≠ L := fun z => by
      rw [z, eL] at eC
      cases cs <;> simp at eC
    refine ⟨.ref L, rfl, L, _, 2, .int left, rfl, rfl, sL, at2, left, 0, rfl, rfl, _, rfl, ite2 (fun e => ?_) (fun e => ?_)⟩
    · refine ⟨.ref L, rfl, L, _, 2, .int left, rfl, rfl, sL, at2, .inl ⟨left, rfl, ?_⟩⟩
      refine ⟨.int left, rfl, .int many, rfl, left, many, rfl, rfl, ⟨by omega, by omega⟩, .ref L, rfl, L, _, 2, 2, rfl, rfl, eL, rfl, ?_⟩
      exact ⟨.int left, rfl, .inl ⟨left, rfl, .int many, rfl, left, many, rfl, rfl, (by omega), fin left H turn left l0 (LSame.refl _ _) eL eC t0 (by omega)⟩⟩
    · refine ⟨.ref L, rfl, L, _, 1, .int turn, rfl, rfl, sL, at1, ?_⟩
      refine ⟨.int turn, rfl, turn, 1, rfl, rfl, .ref L, rfl, L, _, 1, 1, rfl, rfl, eL, rfl, ?_⟩
      refine ⟨.int turn, rfl, 112207, turn, rfl, rfl, .inl ⟨by decide, by decide⟩, _, 9133, rfl, rfl, ?_⟩
      -- the heap from here on
      have eL1 : (upd H L (.lst [.ref c, .int (turn + 1), .int left])) L = some (.lst [.ref c, .int (turn + 1), .int left]) := upd_same
      have eC1 : (upd H L (.lst [.ref c, .int (turn + 1), .int left])) c = some (.lst (cs.map V.int)) := by rw [upd_ne ncL]; exact eC
      have S1 : LSame L H (upd H L (.lst [.ref c, .int (turn + 1), .int left])) := lsame_upd
      have sL1 : SqL K (upd H L (.lst [.ref c, .int (turn + 1), .int left])) L [.ref c, .int (turn + 1), .int left] := .inl (.inl eL1)
      refine ⟨fun σ H2 => ∃ cell : Int, σ = [some (.ref L), some (.int many), none, some (.int turn), some (.int cell), none] ∧ Same (upd H L (.lst [.ref c, .int (turn + 1), .int left])) H2, ?_, fun σ H2 hM => ?_⟩
      · refine ⟨.ref L, rfl, L, _, 0, .ref c, rfl, rfl, sL1, at0, Nat.zero_le _, fun p np => ?_⟩
        have s2 := same_upd (o := .lst []) np
        refine ⟨pL cs, pL [], dp_pL (.inl (.inl (s2 _ _ eC1))), dp_pL (.inl (.inl upd_same)), shp_pL _, shp_pL _, _, rfl, ?_⟩
        rw [eqv_pL]
        refine ite2 (fun e1 => ?_) (fun e1 => ?_)
        · have hne : cs ≠ [] := by simpa using e1
          have hlen : 0 < cs.length := List.length_pos_iff.mpr hne
          have hr0 : 0 ≤ turn % (((cs.map V.int).length : Nat) : Int) := Int.emod_nonneg _ (by rw [List.length_map]; omega)
          have hr1 : turn % (((cs.map V.int).length : Nat) : Int) < (((cs.map V.int).length : Nat) : Int) := Int.emod_lt_of_pos _ (by rw [List.length_map]; omega)
          have hi : (turn % (((cs.map V.int).length : Nat) : Int)).toNat < cs.length := by rw [List.length_map] at hr1 ⊢; omega
          have ha : atI (cs.map V.int) (turn % (((cs.map V.int).length : Nat) : Int)) = some (.int (cs.getD (turn % (((cs.map V.int).length : Nat) : Int)).toNat 0)) := by
            have := atI_nat (xs := cs.map V.int) (j := (turn % (((cs.map V.int).length : Nat) : Int)).toNat) (v := .int (cs.getD (turn % (((cs.map V.int).length : Nat) : Int)).toNat 0)) (by
              rw [List.getElem?_map, List.getElem?_eq_getElem hi, List.getD_eq_getElem?_getD, List.getElem?_eq_getElem hi]
              rfl)
            rw [Int.toNat_of_nonneg hr0] at this
            exact this
          have sL2 : SqL K (upd (upd H L (.lst [.ref c, .int (turn + 1), .int left])) p (.lst [])) L [.ref c, .int (turn + 1), .int left] := Same.seq s2 sL1
          have sC2 : SqL K (upd (upd H L (.lst [.ref c, .int (turn + 1), .int left])) p (.lst [])) c (cs.map V.int) := .inl (.inl (s2 _ _ eC1))
          exact ⟨.ref L, rfl, L, _, 0, .ref c, rfl, rfl, sL2, at0, .int turn, rfl, .inl ⟨turn, rfl, .ref L, rfl, L, _, 0, .ref c, rfl, rfl, sL2, at0, c, _, rfl, .inl sC2, turn, _, rfl, rfl, (by rw [List.length_map]; omega), c, _, _, _, rfl, rfl, sC2, ha, _, rfl, s2⟩⟩
        · exact ⟨_, rfl, s2⟩
      · obtain ⟨cell, rfl, s2⟩ := hM
        have sL2 : SqL K H2 L [.ref c, .int (turn + 1), .int left] := Same.seq s2 sL1
        have sC2 : SqL K H2 c (cs.map V.int) := .inl (.inl (s2 _ _ eC1))
        refine ⟨fun σ H3 => σ = [some (.ref L), some (.int many), none, some (.int turn), some (.int cell), none] ∧ H2 = H3, ?_, fun σ H3 hM => ?_⟩
        · refine ⟨.int turn, rfl, .ref L, rfl, L, _, 0, .ref c, rfl, rfl, sL2, at0, c, _, rfl, .inl sC2, turn, _, rfl, rfl, _, rfl, ite2 (fun e1 => ?_) (fun e1 => ?_)⟩
          · refine ⟨.int cell, rfl, cell, rfl, 10, 18, rfl, rfl, ⟨by decide, by decide, by decide⟩, _, _, rfl, rfl, _, rfl, ite2 (fun e2 => ?_) (fun e2 => ?_)⟩
            · have hw : (10 : Int) ^ (18 : Int).toNat ≤ (if cell < 0 then -cell else cell) := of_decide_eq_true e2
              refine ⟨.int cell, rfl, .inl ⟨cell, rfl, cell, rfl, 10, 18, rfl, rfl, ⟨by decide, by decide, by decide⟩, _, _, rfl, rfl, 2, _, rfl, rfl, .inl ⟨by decide, by decide⟩, .int cell, rfl, cell, 0, rfl, rfl, .inr ⟨_, rfl, _, _, rfl, rfl, ?_⟩⟩⟩
              refine ⟨_, rfl, .int many, rfl, _, many, rfl, rfl, ⟨by omega, by omega⟩, .ref L, rfl, L, _, 2, 2, rfl, rfl, s2 _ _ eL1, rfl, ?_⟩
              refine ⟨_, rfl, .inl ⟨_, rfl, .int many, rfl, _, many, rfl, rfl, (by omega), fin _ H2 (turn + 1) left ?_ (S1.trans (LSame.of s2)) (s2 _ _ eL1) (s2 _ _ eC1) (by omega) (by omega)⟩⟩
              have : 0 ≤ (if decide (cell < 0) = true then (1 : Int) else 0) := by split <;> decide
              omega
            · exact ⟨rfl, rfl⟩
          · exact ⟨rfl, rfl⟩
        · obtain ⟨rfl, rfl⟩ := hM
          have hc0 : 0 ≤ cell % 2147483563 := Int.emod_nonneg _ (by decide)
          have hc1 : cell % 2147483563 < 2147483563 := Int.emod_lt_of_pos _ (by decide)
          have tb : turn ≤ 1000000 := by omega
          refine ⟨fun σ H3 => ∃ m : Int, 0 ≤ m ∧ m < 2147483579 ∧ σ = [some (.ref L), some (.int many), none, some (.int turn), some (.int cell), some (.int m)] ∧ H2 = H3, ?_, fun σ H3 hM => ?_⟩
          · refine ⟨.int cell, rfl, .inl ⟨cell, rfl, cell, 2147483563, rfl, rfl, (show (0 : Int) < 2147483563 by decide), .int turn, rfl, 87149, turn, rfl, rfl, .inl ⟨by decide, by decide⟩, _, _, rfl, rfl, _, 9133, rfl, rfl, _, 5, rfl, rfl, ⟨by decide, by decide, ?_⟩, .inl ⟨_, rfl, _, 2147483579, rfl, rfl, (show (0 : Int) < 2147483579 by decide), ?_⟩⟩⟩
            · omega
            · exact ⟨_, Int.emod_nonneg _ (by decide), Int.emod_lt_of_pos _ (by decide), rfl, rfl⟩
          · obtain ⟨m, m0, m1, rfl, rfl⟩ := hM
            refine ⟨fun σ H3 => ∃ z : Int, σ = [some (.ref L), some (.int many), none, some (.int turn), some (.int cell), some (.int z)] ∧ H2 = H3, ?_, fun σ H3 hM => ?_⟩
            · refine ⟨.int m, rfl, .int turn, rfl, 2, turn, rfl, rfl, .inl ⟨by decide, by decide⟩, _, 9133, rfl, rfl, m, _, rfl, rfl, .inl ⟨by omega, by omega⟩, .int turn, rfl, 112207, turn, rfl, rfl, .inl ⟨by decide, by decide⟩, .int turn, rfl, _, turn, rfl, rfl, .inr ⟨by omega, by omega⟩, _, _, rfl, rfl, _, 87149, rfl, rfl, _, 3, rfl, rfl, ⟨by decide, by decide, ?_⟩, .inl ⟨_, rfl, _, 2147483549, rfl, rfl, (show (0 : Int) < 2147483549 by decide), _, rfl, rfl⟩⟩
              have h1 : 0 ≤ m * (2 * turn + 9133) := Int.mul_nonneg m0 (by omega)
              have h2 : m * (2 * turn + 9133) ≤ 2147483579 * 2009133 := Int.mul_le_mul (by omega) (by omega) (by omega) (by decide)
              have h3 : 0 ≤ 112207 * turn * turn := Int.mul_nonneg (by omega) t0
              have h4 : 112207 * turn * turn ≤ 112207000000 * 1000000 := Int.mul_le_mul (by omega) tb t0 (by decide)
              show (m * (2 * turn + 9133) + 112207 * turn * turn + 87149).natAbs < 2 ^ 64
              generalize m * (2 * turn + 9133) = x1 at h1 h2 ⊢
              generalize 112207 * turn * turn = x2 at h3 h4 ⊢
              omega
            · obtain ⟨z, rfl, rfl⟩ := hM
              refine ⟨.int z, rfl, z, 64, rfl, rfl, ⟨by decide, by decide⟩, .inl ⟨_, rfl, .int many, rfl, _, many, rfl, rfl, (by omega), ?_⟩⟩
              exact q _ _ (Int.emod_nonneg _ (by omega)) (Int.emod_lt_of_pos _ (by omega)) (S1.trans (LSame.of s2)) ⟨cs, turn + 1, left, s2 _ _ eL1, s2 _ _ eC1, lc, by omega, by omega, l0⟩
/-- one of a list -/
theorem scPick : FnScope ["_law_lantern_here", "_law_some"] ["_law_lantern_here", "_law_some"] (defScope sPick) := ⟨rfl, rfl, rfl, by decide +kernel, rfl, by decide +kernel, by decide +kernel⟩
def spPick (K : PySem.W.Frag) : Sp := fun vs H Q _ => ∃ (L c a : Addr) (n : Nat) (xs : List V), vs = [.ref L, .ref a] ∧ LanB H L c n ∧ n < 1000000 ∧ SqL K H a xs ∧ a ≠ L ∧ 1 ≤ xs.length ∧ xs.length ≤ 1000 ∧ ∀ v H', v ∈ xs → LSame L H H' → LanB H' L c (n + 1) → Q v H'
theorem x_pick (B : Bt mg) (D1 : HasD K mg "_law_flame_by" sFlame) (D : HasD K mg "_law_pick" sPick) : CalX w K mg base (L2.CX PR w) 2 "_law_pick" sPick ["_law_lantern_here", "_law_some"] (spPick K) := by
  refine calx_of D scPick (fun kV doc pm an cdv ct us h => by match us, h with | [u1, u2], _ => rfl) (fun vs H Q E h => ?_) (fun f cdv A outer s H vs Q E hr h => ?_)
  · obtain ⟨L, c, a, n, xs, rfl, _⟩ := h; rfl
  · obtain ⟨L, c, a, n, xs, rfl, lan, hn, ha, na, h1, h2, q⟩ := h
    refine ⟨_, pss_one (ps_ret (pe_ix ix_list (pv 1) (pe_cx (x_flame B D1) hr (by decide) passL (pa_cons (pv 0) (pa_cons (pe_callB call_len_seq (by rfl) B.len PySem.boot_len (pa_cons (pv 1) pa_nil)) pa_nil))) (fun _ _ => rfl))), ?_⟩
    refine ⟨.ref a, rfl, .ref L, rfl, .ref a, rfl, a, xs, rfl, .inl ha, L, c, n, _, rfl, lan, hn, by omega, by omega, fun r H1 r0 r1 s1 l1 => ?_⟩
    have hi : r.toNat < xs.length := by omega
    have e : atI xs r = some xs[r.toNat] := by
      have := atI_nat (xs := xs) (j := r.toNat) (v := xs[r.toNat]) (List.getElem?_eq_getElem hi)
      rw [Int.toNat_of_nonneg r0] at this
      exact this
    exact ⟨a, xs, r, _, rfl, rfl, s1.seqL na ha, e, q _ H1 (List.getElem_mem hi) s1 l1⟩
end
end K60
set_option maxHeartbeats 4000000
namespace K60
open PySem PySem.Spec PyProof.Rows L2
/-! ### is one: the mathematics -/
def accF (rb : List Int) : Int × List Int := rb.foldl (fun s b => ((b + s.1) % 2, s.2 ++ [(b + s.1) % 2])) (0, [])
def oneLoop : Nat → List Int → Bool
  | 0, _ => true
  | k + 1, bits => if (accF bits.reverse).1 = 1 then false else oneLoop k (accF bits.reverse).2.dropLast.reverse
def isOne (p : List Int) : Bool := oneLoop (p.length - 2) p
def crossF : Nat → List Int
  | 0 => [1]
  | n + 1 => List.zipWith xb (0 :: crossF n) (crossF n ++ [0])
theorem crossF_len : ∀ n, (crossF n).length = n + 1
  | 0 => rfl
  | n + 1 => by simp [crossF, crossF_len n]
theorem accF_len (rb : List Int) : ∀ s : Int × List Int, (rb.foldl (fun s b => ((b + s.1) % 2, s.2 ++ [(b + s.1) % 2])) s).2.length = s.2.length + rb.length := by
  induction rb with
  | nil => intro s; rfl
  | cons b r ih =>
    intro s
    rw [List.foldl_cons, ih]
    simp
    omega
theorem accF_take {rb : List Int} {i : Nat} {x : Int} (h : rb[i]? = some x) : accF (rb.take (i + 1)) = ((x + (accF (rb.take i)).1) % 2, (accF (rb.take i)).2 ++ [(x + (accF (rb.take i)).1) % 2]) := by
  unfold accF
  rw [List.take_add_one, h, List.foldl_append]
  rfl
theorem cutInit (xs : List V) : cutV xs none (some (-1)) = xs.dropLast := by
  unfold cutV
  rw [HT.sIx_none, List.drop_zero, Nat.sub_zero, List.dropLast_eq_take]
  congr 1
  unfold HT.sIx
  simp only []
  split <;> omega
section
variable {w : World} {K : PySem.W.Frag} {mg : Str → Option Value} {base : Heap}
abbrev nIsOne : List Str := ["_law_parities", "_law_bits_here", "_law_turn", "_law_rest", "_law_found", "_law_bit"]
theorem scIsOne : FnScope nIsOne ["_law_parities"] (defScope sIsOne) := ⟨rfl, rfl, rfl, by decide +kernel, rfl, by decide +kernel, by decide +kernel⟩
def spIsOne (K : PySem.W.Frag) : Sp := fun vs H Q _ => ∃ (a : Addr) (ps : List Int), vs = [.ref a] ∧ SqT K H a (ps.map V.int) ∧ ps.length ≤ 100 ∧ ∀ H', Same H H' → Q (.bl (isOne ps)) H'
theorem x_isOne (B : Bt mg) (D : HasD K mg "_law_is_one" sIsOne) : CalX w K mg base (L2.CX PR w) 1 "_law_is_one" sIsOne ["_law_parities"] (spIsOne K) := by
  refine calx_of D scIsOne (fun kV doc pm an cdv ct us h => by match us, h with | [u1], _ => rfl) (fun vs H Q E h => ?_) (fun f cdv A outer s H vs Q E hr h => ?_)
  · obtain ⟨a, ns, rfl, _⟩ := h; rfl
  · obtain ⟨a, ps, rfl, ha, la, q⟩ := h
    refine ⟨_, pss_cons (ps_set (i := 1) scIsOne.nd rfl (.inl rfl) (pe_callTy call_list_of (by rfl) B.list boot_list (pa_cons (pv 0) pa_nil)))
      (pss_cons (ps_for (passes_of rfl) rfl (pi_range1 (by rfl) B.range (pa_cons (pe_op op_sub (pe_callB call_len_seq (by rfl) B.len PySem.boot_len (pa_cons (pv 0) pa_nil)) pe_int) pa_nil)) (pg_name (i := 2) scIsOne.nd rfl (.inl rfl))
        (pss_cons (ps_par (i := 3) (j := 4) rfl scIsOne.nd rfl rfl (by decide) rfl rfl (pa_cons pe_int (pa_cons (pe_lst pa_nil) pa_nil)) (by rfl))
        (pss_cons (ps_for (passes_of rfl) rfl (pi_list (pe_revL (pv 1))) (pg_name (i := 5) scIsOne.nd rfl (.inl rfl))
          (pss_cons (ps_set (i := 3) scIsOne.nd rfl (.inl rfl) (pe_op op_mod (pe_callTy call_int1 (by rfl) B.int boot_int (pa_cons (pe_op op_add (pv 5) (pv 3)) pa_nil)) pe_int))
          (pss_one (ps_expr (pe_bm PySem.F.plainAttrs_list PySem.F.slot_list_append PySem.F.type_list_append mt_append (pv 4) (pa_cons (pv 3) pa_nil))))))
        (pss_cons (ps_if (pt_cmpR op_eq (pv 3) pe_int (nomark _)) (pss_one (ps_ret pe_bl)) pss_nil)
        (pss_one (ps_set (i := 1) scIsOne.nd rfl (.inl rfl) (pe_revL (pe_slice sl_list (pv 4) po_none (po_some (pe_un un_neg pe_int))))))))))
      (pss_one (ps_ret pe_bl))), ?_⟩
    refine ⟨.ref a, rfl, a, _, rfl, .inr ha, fun l nl => ?_⟩
    refine ⟨.ref a, rfl, a, _, rfl, .inr (Same.seqT (same_upd nl) ha), _, 2, rfl, rfl, _, rfl, ?_, ?_, ?_⟩
    · rw [List.length_map]; omega
    · rw [List.length_map]; omega
    have en : ((((ps.map V.int).length : Nat) : Int) - 2).toNat = ps.length - 2 := by rw [List.length_map]; omega
    rw [en]
    refine for_it walk_range (fun i σ Hc => ∃ (b : Addr) (bits : List Int) (y2 y3 y4 y5 : Option V), σ = [some (.ref a), some (.ref b), y2, y3, y4, y5] ∧ Same H Hc ∧ Hc b = some (.lst (bits.map V.int)) ∧ bits.length ≤ ps.length ∧ isOne ps = oneLoop (ps.length - 2 - i) bits)
      ⟨l, ps, none, none, none, none, rfl, same_upd nl, upd_same, Nat.le_refl _, rfl⟩ (fun _ _ _ _ _ => True.intro) (fun i x σ Hc Hc' hi p y => ?_) (fun σ Hc p => ?_)
    · obtain ⟨b, bits, y2, y3, y4, y5, rfl, sc, eb, lb, eo⟩ := p
      obtain ⟨rfl, rfl⟩ := y
      refine ⟨Nat.zero_le _, fun F nF => ⟨.int 0, .ref F, rfl, ?_⟩⟩
      refine ⟨.ref b, rfl, b, _, rfl, .inl (.inl (same_upd nF _ _ eb)), fun R nR => ?_⟩
      have sF : Same Hc' (upd Hc' F (.lst [])) := same_upd nF
      have nRF : F ≠ R := ne_of_none upd_same nR
      have eR : (upd (upd Hc' F (.lst [])) R (.lst (bits.map V.int).reverse)) R = some (.lst (bits.reverse.map V.int)) := by rw [upd_same, List.map_reverse]
      refine ⟨R, rfl, ⟨_, .inl (.inl eR)⟩, ?_⟩
      refine for_it (walk_list (xs := bits.reverse.map V.int)) (fun j σ Hx => ∃ (y5 : Option V), σ = [some (.ref a), some (.ref b), some (.int (0 + (i : Int))), some (.int (accF (bits.reverse.take j)).1), some (.ref F), y5] ∧ Same Hc' Hx ∧ Hx R = some (.lst (bits.reverse.map V.int)) ∧ Hx F = some (.lst ((accF (bits.reverse.take j)).2.map V.int)))
        ⟨y5, rfl, sF.trans (same_upd nR), eR, by rw [upd_ne nRF]; exact upd_same⟩ (fun j σ Hx _ p => by obtain ⟨_, _, _, e, _⟩ := p; exact .inl (.inl e)) (fun j x σ Hx Hx' hj p y => ?_) (fun σ Hx p => ?_)
      · obtain ⟨y5, rfl, sx, eRx, eFx⟩ := p
        obtain ⟨rfl, yx⟩ := y
        have hx := map_get yx
        subst hx
        rw [List.length_map] at hj
        have gx : bits.reverse[j]? = some (bits.reverse.getD j 0) := by rw [List.getD_eq_getElem?_getD, List.getElem?_eq_getElem hj]; rfl
        have st := accF_take gx
        refine ⟨_, rfl, _, rfl, _, _, rfl, rfl, .inl ⟨_, rfl, _, 2, rfl, rfl, (show (0 : Int) < 2 by decide), ?_⟩⟩
        refine ⟨.ref F, rfl, .inl ⟨rfl, _, .inl (.inl eFx)⟩, _, rfl, F, _, _, rfl, rfl, eFx, ?_, ?_⟩
        · rw [List.length_map]
          have := accF_len (bits.reverse.take j) (0, [])
          unfold accF
          rw [this, List.length_take]
          exact line_lt (by simp; omega)
        · refine ⟨_, by rw [st]; rfl, same_to (by
            cases e : Hc' F with
            | none => rfl
            | some o => rw [e] at nF; cases nF) sx, ?_, ?_⟩
          · rw [upd_ne (fun z => nRF z.symm)]
            exact eRx
          · rw [upd_same, st, List.map_append]
            rfl
      · obtain ⟨y5, rfl, sx, eRx, eFx⟩ := p
        rw [List.length_map, List.take_length] at eFx
        have el : (bits.reverse.map V.int).length = bits.reverse.length := List.length_map _
        have h0 : oneLoop (ps.length - 2 - i) bits = if (accF bits.reverse).1 = 1 then false else oneLoop (ps.length - 2 - (i + 1)) (accF bits.reverse).2.dropLast.reverse := by
          rw [show ps.length - 2 - i = (ps.length - 2 - (i + 1)) + 1 by omega]
          rfl
        refine ⟨_, rfl, rfl, _, rfl, ite2 (fun e => ?_) (fun e => ?_)⟩
        · have e := V.int.inj (of_decide_eq_true e)
          rw [el, List.take_length] at e
          have := q Hx (sc.trans sx)
          rw [eo, h0, if_pos e] at this
          exact this
        · have e : ¬ (accF bits.reverse).1 = 1 := fun z => e (decide_eq_true (by rw [el, List.take_length, z]))
          refine ⟨.ref F, rfl, 1, rfl, _, rfl, F, _, rfl, .inl (.inl eFx), fun G nG => ⟨G, _, rfl, .inl (.inl upd_same), fun G2 nG2 => ?_⟩⟩
          refine ⟨G2, (accF bits.reverse).2.dropLast.reverse, _, _, _, _, rfl, (sc.trans sx).trans ((same_upd nG).trans (same_upd nG2)), ?_, ?_, ?_⟩
          · rw [upd_same, show (-1 : Int) = -1 from rfl, cutInit, List.map_reverse, List.map_dropLast]
          · have := accF_len bits.reverse (0, [])
            unfold accF
            rw [List.length_reverse, List.length_dropLast, this]
            simp
            omega
          · rw [eo, h0, if_neg e]
    · obtain ⟨b, bits, y2, y3, y4, y5, rfl, sc, eb, lb, eo⟩ := p
      have := q Hc sc
      rw [eo, Nat.sub_self] at this
      exact this
end
end K60
set_option maxHeartbeats 4000000
namespace K60
open PySem PySem.Spec PyProof.Rows L2
theorem Seq.at {K : PySem.W.Frag} {H : Hp} {a : Addr} {xs : List V} {i : Int} {v : V} {Q : VK} (h : Seq K H a xs) (e : atI xs i = some v) (q : Q v H) : rIx K (.ref a) (.int i) H Q := by
  rcases h with h | h
  · exact .inl ⟨a, xs, i, v, rfl, rfl, h, e, q⟩
  · exact .inr (.inl ⟨a, xs, i, v, rfl, rfl, h, e, q⟩)
theorem atInt {ns : List Int} {i : Int} {j : Nat} (h : i = (j : Int)) (hj : j < ns.length) : atI (ns.map V.int) i = some (.int (ns.getD j 0)) := by
  rw [h]
  refine atI_nat ?_
  rw [List.getElem?_map, List.getElem?_eq_getElem hj, List.getD_eq_getElem?_getD, List.getElem?_eq_getElem hj]
  rfl
theorem mixF_at {ps fs : List Int} {k : Int} (hl : fs.length = ps.length) {i : Nat} (hi : i ≤ ps.length) :
    (mixF ps fs k)[i]? = some (xb (if i < ps.length then (if k = 1 then fs else ps).getD i 0 else 0) (if 0 < i then (if k = 1 then ps else fs).getD (i - 1) 0 else 0)) := by
  have go : ∀ os ls : List Int, os.length = ps.length → ls.length = ps.length → (List.zipWith xb (os ++ [0]) (0 :: ls))[i]? = some (xb (if i < ps.length then os.getD i 0 else 0) (if 0 < i then ls.getD (i - 1) 0 else 0)) := fun os ls ho hl => by
    rw [List.getElem?_zipWith]
    have e1 : (os ++ [0])[i]? = some (if i < ps.length then os.getD i 0 else 0) := by
      by_cases h : i < ps.length
      · rw [if_pos h, List.getElem?_append_left (by omega), List.getD_eq_getElem?_getD, List.getElem?_eq_getElem (by omega)]
        rfl
      · rw [if_neg h, List.getElem?_append_right (by omega), show i - os.length = 0 by omega]
        rfl
    have e2 : ((0 : Int) :: ls)[i]? = some (if 0 < i then ls.getD (i - 1) 0 else 0) := by
      cases i with
      | zero => rfl
      | succ j =>
        rw [if_pos (Nat.succ_pos _), List.getElem?_cons_succ, Nat.add_sub_cancel, List.getD_eq_getElem?_getD, List.getElem?_eq_getElem (by omega)]
        rfl
    rw [e1, e2]
  unfold mixF
  by_cases h : k = 1
  · simp only [if_pos h]
    exact go fs ps hl rfl
  · simp only [if_neg h]
    exact go ps fs rfl hl
section
variable {w : World} {K : PySem.W.Frag} {mg : Str → Option Value} {base : Heap}
abbrev nMixed : List Str := ["_law_parities", "_law_free", "_law_burns", "_law_found", "_law_weight", "_law_off", "_law_lit", "_law_mine", "_law_its"]
theorem scMixed : FnScope nMixed ["_law_parities", "_law_free", "_law_burns"] (defScope sMixed) := ⟨rfl, rfl, rfl, by decide +kernel, rfl, by decide +kernel, by decide +kernel⟩
def spMixed (K : PySem.W.Frag) : Sp := fun vs H Q _ => ∃ (a b : Addr) (ps fs : List Int) (k : Int), vs = [.ref a, .ref b, .int k] ∧ Seq K H a (ps.map V.int) ∧ Seq K H b (fs.map V.int) ∧ fs.length = ps.length ∧ ps.length ≤ 90 ∧ ∀ q H', Same H H' → SqT K H' q ((mixF ps fs k).map V.int) → Q (.ref q) H'
theorem x_mixed (B : Bt mg) (D : HasD K mg "_law_mixed" sMixed) : CalX w K mg base (L2.CX PR w) 1 "_law_mixed" sMixed ["_law_parities", "_law_free", "_law_burns"] (spMixed K) := by
  refine calx_of D scMixed (fun kV doc pm an cdv ct us h => by match us, h with | [u1, u2, u3], _ => rfl) (fun vs H Q E h => ?_) (fun f cdv A outer s H vs Q E hr h => ?_)
  · obtain ⟨a, b, ps, fs, k, rfl, _⟩ := h; rfl
  · obtain ⟨a, b, ps, fs, k, rfl, ha, hb, hl, la, q⟩ := h
    refine ⟨_, pss_cons (ps_set (i := 3) scMixed.nd rfl (.inl rfl) (pe_lst pa_nil))
      (pss_cons (ps_for (passes_of rfl) rfl (pi_range2 (by rfl) B.range (pa_cons pe_int (pa_cons (pe_op op_add (pe_callB call_len_seq (by rfl) B.len PySem.boot_len (pa_cons (pv 0) pa_nil)) pe_int) pa_nil))) (pg_name (i := 4) scMixed.nd rfl (.inl rfl))
        (Evl.pss_cut (ps_asg (pe_ifExp (pt_cmpR op_eq (pv 2) pe_int (nomark _)) (pe_tup (pa_cons (pv 1) (pa_cons (pv 0) pa_nil))) (pe_tup (pa_cons (pv 0) (pa_cons (pv 1) pa_nil))))
            (pg_tup rfl (pgs_cons (pg_name (i := 5) scMixed.nd rfl (.inl rfl)) (pgs_cons (pg_name (i := 6) scMixed.nd rfl (.inl rfl)) pgs_nil))))
        (Evl.pss_cut (ps_set (i := 7) scMixed.nd rfl (.inl rfl) (pe_ifExp (pt_cmpR op_le (pv 4) (pe_callB call_len_seq (by rfl) B.len PySem.boot_len (pa_cons (pv 5) pa_nil)) (nomark _)) (pe_ix ix_seq (pv 5) (pe_op op_sub (pv 4) pe_int) (fun _ _ => rfl)) pe_int))
        (Evl.pss_cut (ps_set (i := 8) scMixed.nd rfl (.inl rfl) (pe_ifExp (pt_cmpR op_gt (pv 4) pe_int (nomark _)) (pe_ix ix_seq (pv 6) (pe_op op_sub (pv 4) pe_int) (fun _ _ => rfl)) pe_int))
        (pss_one (ps_expr (pe_bm PySem.F.plainAttrs_list PySem.F.slot_list_append PySem.F.type_list_append mt_append (pv 3) (pa_cons (pe_op op_mod (pe_callTy call_int1 (by rfl) B.int boot_int (pa_cons (pe_op op_add (pv 7) (pv 8)) pa_nil)) pe_int) pa_nil))))))))
      (pss_one (ps_ret (pe_tupleOf (by rfl) B.tuple (pv 3))))), ?_⟩
    refine ⟨Nat.zero_le _, fun F nF => ?_⟩
    have sF : Same H (upd H F (.lst [])) := same_upd nF
    refine ⟨.ref a, rfl, a, _, rfl, ha.same sF, _, 2, rfl, rfl, 1, _, rfl, ⟨by omega, by omega, ?_, ?_⟩, ?_⟩
    · rw [List.length_map]; omega
    · rw [List.length_map]; omega
    have en : ((((ps.map V.int).length : Nat) : Int) + 2 - 1).toNat = ps.length + 1 := by rw [List.length_map]; omega
    rw [en]
    refine for_it walk_range (fun i σ Hc => ∃ (y4 y5 y6 y7 y8 : Option V), σ = [some (.ref a), some (.ref b), some (.int k), some (.ref F), y4, y5, y6, y7, y8] ∧ Same H Hc ∧ Hc F = some (.lst (((mixF ps fs k).take i).map V.int)))
      ⟨none, none, none, none, none, rfl, sF, upd_same⟩ (fun _ _ _ _ _ => True.intro) (fun i x σ Hc Hc' hi p y => ?_) (fun σ Hc p => ?_)
    · obtain ⟨y4, y5, y6, y7, y8, rfl, sc, eF⟩ := p
      obtain ⟨rfl, rfl⟩ := y
      -- off, lit
      refine ⟨fun σ H2 => ∃ o l : Addr, σ = [some (.ref a), some (.ref b), some (.int k), some (.ref F), some (.int (1 + (i : Int))), some (.ref o), some (.ref l), y7, y8] ∧ Same Hc' H2 ∧ Seq K H2 o ((if k = 1 then fs else ps).map V.int) ∧ Seq K H2 l ((if k = 1 then ps else fs).map V.int), ?_, fun σ H2 hM => ?_⟩
      · refine ⟨.int k, rfl, rfl, _, rfl, ite2 (fun e => ?_) (fun e => ?_)⟩
        · have ek : k = 1 := V.int.inj (of_decide_eq_true e)
          refine ⟨.ref b, rfl, .ref a, rfl, two_line, fun T nT => ⟨T, _, rfl, SqT.of upd_same, rfl, _, _, rfl, _, _, rfl, rfl, b, a, rfl, same_upd nT, ?_, ?_⟩⟩
          · rw [if_pos ek]; exact hb.same (sc.trans (same_upd nT))
          · rw [if_pos ek]; exact ha.same (sc.trans (same_upd nT))
        · have ek : ¬ k = 1 := fun z => e (decide_eq_true (by rw [z]))
          refine ⟨.ref a, rfl, .ref b, rfl, two_line, fun T nT => ⟨T, _, rfl, SqT.of upd_same, rfl, _, _, rfl, _, _, rfl, rfl, a, b, rfl, same_upd nT, ?_, ?_⟩⟩
          · rw [if_neg ek]; exact ha.same (sc.trans (same_upd nT))
          · rw [if_neg ek]; exact hb.same (sc.trans (same_upd nT))
      obtain ⟨o, l, rfl, s2, ho, hlt⟩ := hM
      have lo : (if k = 1 then fs else ps).length = ps.length := by split <;> omega
      have ll : (if k = 1 then ps else fs).length = ps.length := by split <;> omega
      have em := mixF_at (ps := ps) (fs := fs) (k := k) hl (i := i) (by omega)
      generalize (if k = 1 then fs else ps) = os at ho lo em
      generalize (if k = 1 then ps else fs) = ls at hlt ll em
      -- mine
      refine ⟨fun σ H3 => σ = [some (.ref a), some (.ref b), some (.int k), some (.ref F), some (.int (1 + (i : Int))), some (.ref o), some (.ref l), some (.int (if i < ps.length then os.getD i 0 else 0)), y8] ∧ H2 = H3, ?_, fun σ H3 hM => ?_⟩
      · refine ⟨.int (1 + (i : Int)), rfl, .ref o, rfl, o, _, rfl, ho, _, _, rfl, rfl, _, rfl, ite2 (fun e => ?_) (fun e => ?_)⟩
        · have e : 1 + (i : Int) ≤ (((os.map V.int).length : Nat) : Int) := of_decide_eq_true e
          rw [List.length_map] at e
          refine ⟨.ref o, rfl, .int (1 + (i : Int)), rfl, _, 1, rfl, rfl, ho.at (atInt (j := i) (by omega) (by omega)) ?_⟩
          rw [if_pos (show i < ps.length by omega)]
          exact ⟨rfl, rfl⟩
        · have e : ¬ (1 + (i : Int) ≤ (((os.map V.int).length : Nat) : Int)) := fun z => e (decide_eq_true z)
          rw [List.length_map] at e
          rw [if_neg (show ¬ i < ps.length by omega)]
          exact ⟨rfl, rfl⟩
      obtain ⟨rfl, rfl⟩ := hM
      -- its
      refine ⟨fun σ H3 => σ = [some (.ref a), some (.ref b), some (.int k), some (.ref F), some (.int (1 + (i : Int))), some (.ref o), some (.ref l), some (.int (if i < ps.length then os.getD i 0 else 0)), some (.int (if 0 < i then ls.getD (i - 1) 0 else 0))] ∧ H2 = H3, ?_, fun σ H3 hM => ?_⟩
      · refine ⟨.int (1 + (i : Int)), rfl, _, 1, rfl, rfl, _, rfl, ite2 (fun e => ?_) (fun e => ?_)⟩
        · have e : 1 < 1 + (i : Int) := of_decide_eq_true e
          refine ⟨.ref l, rfl, .int (1 + (i : Int)), rfl, _, 2, rfl, rfl, hlt.at (atInt (j := i - 1) (by omega) (by omega)) ?_⟩
          rw [if_pos (show 0 < i by omega)]
          exact ⟨rfl, rfl⟩
        · have e : ¬ (1 < 1 + (i : Int)) := fun z => e (decide_eq_true z)
          rw [if_neg (show ¬ 0 < i by omega)]
          exact ⟨rfl, rfl⟩
      obtain ⟨rfl, rfl⟩ := hM
      refine ⟨.ref F, rfl, .inl ⟨rfl, _, .inl (.inl (s2 _ _ eF))⟩, _, rfl, _, rfl, _, _, rfl, rfl, .inl ⟨_, rfl, _, 2, rfl, rfl, (show (0 : Int) < 2 by decide), F, _, _, rfl, rfl, s2 _ _ eF, ?_, ?_⟩⟩
      · rw [List.length_map, List.length_take]
        exact line_lt (by omega)
      · refine ⟨_, _, _, _, _, rfl, ?_, ?_⟩
        · exact same_to (by
            cases e : H F with
            | none => rfl
            | some o => rw [e] at nF; cases nF) (sc.trans s2)
        · rw [upd_same, List.take_add_one, em, List.map_append]
          rfl
    · obtain ⟨y4, y5, y6, y7, y8, rfl, sc, eF⟩ := p
      rw [List.take_of_length_le (by rw [mixF_length hl]; omega)] at eF
      exact ⟨.ref F, rfl, .inl ⟨F, _, rfl, .inl (.inl eF), fun p np => q p _ (sc.trans (same_upd np)) (SqT.of upd_same)⟩⟩
/-! ### bits by the lantern -/
abbrev nBits : List Str := ["_law_lantern_here", "_law_many", "_law_at"]
theorem scBits : FnScope nBits ["_law_lantern_here", "_law_many"] (defScope sBits) := ⟨rfl, rfl, rfl, by decide +kernel, rfl, by decide +kernel, by decide +kernel⟩
def spBits : Sp := fun vs H Q _ => ∃ (L c : Addr) (n m : Nat), vs = [.ref L, .int (m : Int)] ∧ LanB H L c n ∧ n + m < 1000000 ∧ m ≤ 1000 ∧ ∀ D ns H', LSame L H H' → H D = none → D ≠ L → H' D = some (.lst (ns.map V.int)) → Bits ns → ns.length = m → LanB H' L c (n + m) → Q (.ref D) H'
theorem x_bits (B : Bt mg) (D1 : HasD K mg "_law_flame_by" sFlame) (D : HasD K mg "_law_bits" sBits) : CalX w K mg base (L2.CX PR w) 2 "_law_bits" sBits ["_law_lantern_here", "_law_many"] spBits := by
  refine calx_of D scBits (fun kV doc pm an cdv ct us h => by match us, h with | [u1, u2], _ => rfl) (fun vs H Q E h => ?_) (fun f cdv A outer s H vs Q E hr h => ?_)
  · obtain ⟨L, c, n, m, rfl, _⟩ := h; rfl
  · obtain ⟨L, c, n, m, rfl, lan, hn, hm, q⟩ := h
    refine ⟨_, pss_one (ps_ret (pe_lc (own := [("_law_at", 2)]) (te := tCall spFlame [] E0 (tCons (tVar 0) (tCons (tC (.int 2)) tNil))) rfl scBits.nd (pi_range1 (by rfl) B.range (pa_cons (pv 1) pa_nil)) (blk_by (N := nBits) (sc := defScope sBits) (by decide +kernel))
      (fun _ _ _ _ _ => pg_name (i := 2) scBits.nd rfl (.inl rfl)) (fun _ _ _ _ _ => pts_nil) (fun _ _ _ _ _ => pe_cx (x_flame B D1) hr (by decide) passL (pa_cons (pv 0) (pa_cons pe_int pa_nil))))), ?_⟩
    refine ⟨.int (m : Int), rfl, _, rfl, by omega, by omega, fun D nD => ?_⟩
    rw [Int.toNat_natCast]
    obtain ⟨ls, eL⟩ := lan.at
    have nDL : D ≠ L := fun z => by rw [z, eL] at nD; cases nD
    obtain ⟨ls2, eC⟩ := lan.cell
    have nDc : D ≠ c := fun z => by rw [z, eC] at nD; cases nD
    refine lc_it walk_range (fun i Hc => ∃ ns : List Int, LSame L H Hc ∧ Hc D = some (.lst (ns.map V.int)) ∧ Bits ns ∧ ns.length = i ∧ LanB Hc L c (n + i)) ⟨[], LSame.of (same_upd nD), upd_same, fun x hx => by simp at hx, rfl, lan.same (same_upd nD)⟩ (fun _ _ _ _ => True.intro) (fun i x Hc Hc' hi p y => ?_) (fun Hc p => ?_)
    · obtain ⟨ns, sc, eD, bn, ln, lc⟩ := p
      obtain ⟨rfl, rfl⟩ := y
      refine ⟨rfl, .ref L, rfl, L, c, n + i, 2, rfl, lc, by omega, by omega, by omega, fun r H2 r0 r1 s2 l2 => ?_⟩
      have e2 := s2 D _ nDL eD
      refine ⟨_, e2, line_lt (by rw [List.length_map]; omega), ns ++ [r], fun b o nb e => ?_, ?_, fun x hx => ?_, by simp [ln], ?_⟩
      · rw [upd_ne (ne_of_none e nD)]
        exact s2 _ _ nb (sc _ _ nb e)
      · rw [upd_same]; simp
      · rcases List.mem_append.mp hx with hx | hx
        · exact bn x hx
        · rw [List.mem_singleton.mp hx]; omega
      · exact l2.upd nDL nDc
    · obtain ⟨ns, sc, eD, bn, ln, lc⟩ := p
      exact q D ns Hc sc nD nDL eD bn ln lc
end
end K60
set_option maxHeartbeats 4000000
namespace K60
open PySem PySem.Spec PyProof.Rows L2
section
variable {w : World} {K : PySem.W.Frag} {mg : Str → Option Value} {base : Heap}
abbrev nCross : List Str := ["_law_lamps", "_law_row", "_law_turn", "_law_one", "_law_other"]
theorem scCross : FnScope nCross ["_law_lamps"] (defScope sCrossing) := ⟨rfl, rfl, rfl, by decide +kernel, rfl, by decide +kernel, by decide +kernel⟩
def spCross : Sp := fun vs H Q _ => ∃ n : Nat, vs = [.int ((n : Int) + 2)] ∧ n ≤ 100 ∧ ∀ D H', Same H H' → H' D = some (.lst ((crossF n).map V.int)) → Q (.ref D) H'
theorem x_cross (B : Bt mg) (D : HasD K mg "_law_crossing" sCrossing) : CalX w K mg base (L2.CX PR w) 1 "_law_crossing" sCrossing ["_law_lamps"] spCross := by
  refine calx_of D scCross (fun kV doc pm an cdv ct us h => by match us, h with | [u1], _ => rfl) (fun vs H Q E h => ?_) (fun f cdv A outer s H vs Q E hr h => ?_)
  · obtain ⟨n, rfl, _⟩ := h; rfl
  · obtain ⟨n, rfl, hn, q⟩ := h
    refine ⟨_, pss_cons (ps_set (i := 1) scCross.nd rfl (.inl rfl) (pe_lst (pa_cons pe_int pa_nil)))
      (pss_cons (ps_for (passes_of rfl) rfl (pi_range1 (by rfl) B.range (pa_cons (pe_op op_sub (pv 0) pe_int) pa_nil)) (pg_name (i := 2) scCross.nd rfl (.inl rfl))
        (pss_one (ps_setLc (i := 1) (own := [("_law_one", 3), ("_law_other", 4)]) (g := gPair K 3 4) rfl scCross.nd rfl rfl (by rfl)
          (RZ.pi_zipA (by rfl) B.zip (pa_cons (pe_op op_cat (pe_lst (pa_cons pe_int pa_nil)) (pv 1)) (pa_cons (pe_op op_cat (pv 1) (pe_lst (pa_cons pe_int pa_nil))) pa_nil))) (blk_by (N := nCross) (sc := defScope sCrossing) (by decide +kernel))
          (fun _ _ _ _ _ => pg_tup rfl (pgs_cons (pg_name (i := 3) scCross.nd rfl (.inl rfl)) (pgs_cons (pg_name (i := 4) scCross.nd rfl (.inl rfl)) pgs_nil))) (fun _ _ _ _ _ => pts_nil)
          (fun _ _ _ _ _ => pe_op op_mod (pe_callTy call_int1 (by rfl) B.int boot_int (pa_cons (pe_op op_add (pv 3) (pv 4)) pa_nil)) pe_int))))
      (pss_one (ps_ret (pv 1)))), ?_⟩
    refine ⟨line_small (by simp), fun R nR => ?_⟩
    refine ⟨.int ((n : Int) + 2), rfl, _, 2, rfl, rfl, _, rfl, by omega, by omega, ?_⟩
    rw [show ((n : Int) + 2 - 2).toNat = n by omega]
    refine for_it walk_range (fun i σ Hc => ∃ (r : Addr) (y2 : Option V), σ = [some (.int ((n : Int) + 2)), some (.ref r), y2, none, none] ∧ Same H Hc ∧ Hc r = some (.lst ((crossF i).map V.int)))
      ⟨R, none, rfl, same_upd nR, upd_same⟩ (fun _ _ _ _ _ => True.intro) (fun i x σ Hc Hc' hi p y => ?_) (fun σ Hc p => ?_)
    · obtain ⟨r, y2, rfl, sc, er⟩ := p
      obtain ⟨rfl, rfl⟩ := y
      refine ⟨line_small (by simp), fun z nz => ?_⟩
      have sz := same_upd (o := .lst [.int 0]) nz
      refine ⟨.ref r, rfl, z, r, _, _, rfl, rfl, upd_same, sz _ _ er, line_small (by simp [crossF_len]; omega), fun a na => ?_⟩
      have sa := same_upd (o := .lst ([V.int 0] ++ (crossF i).map V.int)) na
      refine ⟨.ref r, rfl, line_small (by simp), fun y ny => ?_⟩
      have sy := same_upd (o := .lst [.int 0]) ny
      refine ⟨r, y, _, _, rfl, rfl, sy _ _ (sa _ _ (sz _ _ er)), upd_same, line_small (by simp [crossF_len]; omega), fun b nb => ?_⟩
      have sb := same_upd (o := .lst ((crossF i).map V.int ++ [V.int 0])) nb
      have ha : SqL K (upd (upd (upd (upd Hc' z (.lst [.int 0])) a (.lst ([V.int 0] ++ (crossF i).map V.int))) y (.lst [.int 0])) b (.lst ((crossF i).map V.int ++ [V.int 0]))) a (((0 : Int) :: crossF i).map V.int) := .inl (.inl (sb _ _ (sy _ _ upd_same)))
      have hb : SqL K (upd (upd (upd (upd Hc' z (.lst [.int 0])) a (.lst ([V.int 0] ++ (crossF i).map V.int))) y (.lst [.int 0])) b (.lst ((crossF i).map V.int ++ [V.int 0]))) b ((crossF i ++ [(0 : Int)]).map V.int) := .inl (.inl (by rw [upd_same, List.map_append]; rfl))
      have S : Same Hc' (upd (upd (upd (upd Hc' z (.lst [.int 0])) a (.lst ([V.int 0] ++ (crossF i).map V.int))) y (.lst [.int 0])) b (.lst ((crossF i).map V.int ++ [V.int 0]))) := sz.trans (sa.trans (sy.trans sb))
      refine ⟨a, b, _, _, rfl, .inl ⟨ha, hb, fun D nD => ?_⟩⟩
      refine lc_map (walk_zip (n := min ((0 : Int) :: crossF i).length (crossF i ++ [(0 : Int)]).length) (by simp)) (fun j => .int (xb (((0 : Int) :: crossF i).getD j 0) ((crossF i ++ [(0 : Int)]).getD j 0))) nD (line_lt (by simp [crossF_len]; omega)) (fun _ sm => ⟨Same.seq sm ha, Same.seq sm hb⟩) (fun j x Ha Hb hj sa yy Q' kk => ?_) (fun Hd sd ed => ?_)
      · obtain ⟨T, x1, x2, rfl, nT, rfl, f1, f2⟩ := yy
        have g1 := map_get f1
        have g2 := map_get f2
        subst g1 g2
        exact ⟨T, _, rfl, SqT.of upd_same, rfl, _, _, rfl, _, _, rfl, rfl, rfl, _, rfl, _, rfl, _, _, rfl, rfl, .inl ⟨_, rfl, _, 2, rfl, rfl, (show (0 : Int) < 2 by decide), kk _ (same_upd nT)⟩⟩
      · rw [zw_map] at ed
        exact ⟨D, _, rfl, sc.trans (S.trans sd), ed⟩
    · obtain ⟨r, y2, rfl, sc, er⟩ := p
      exact ⟨.ref r, rfl, q r Hc sc er⟩
end
end K60
set_option maxHeartbeats 4000000
namespace K60
open PySem PySem.Spec PyProof.Rows L2
structure CalG (w : World) (K : PySem.W.Frag) (mg : Str → Option Value) (base : Heap) (CX : CXT) (k : Nat) (x : Str) (st : Stmt) (ps : List Str) (sp : Sp) : Prop where
  ex : ∃ f fd, FunD K x x (defArgs st) (defBody st) (defScope st) [] [] f fd ∧ FnG PR w K mg base CX k f fd ps sp ∧ mg x = some (.ref f) ∧ L2.Binds K fd ps []
section
variable {w : World} {K : PySem.W.Frag} {mg : Str → Option Value} {base : Heap}
theorem calg_of {CX : CXT} {k : Nat} {x : Str} {st : Stmt} {N ps : List Str} {sp : Sp} (D : HasD K mg x st) (S : FnScope N ps (defScope st))
    (hb : ∀ (kV doc pm : Value) (an : Option Addr) (cdv ct : Value) (us : List Value), us.length = ps.length → bindArgs (PySem.W.fnOf x x (defArgs st) (defBody st) (defScope st) .none kV doc pm an cdv ct) ⟨us, []⟩ = pure (ps.zip us))
    (len : ∀ vs H Q E, sp vs H Q E → vs.length = ps.length)
    (hbody : ∀ (f : Addr) (cdv : Value) (A : Around) (outer : List Env) (s : Shared) (H : Hp) (vs : List V) (Q : VK) (E : XK), Room k (A.deeper (envOfC x (defScope st) s.heap.objs.size f cdv)) → A.guards = some [] → sp vs H Q E →
      ∃ t, PSs (cxOf CX PR w K mg base N x (defScope st) f cdv A outer s H E) (defBody st) t ∧ t { nx := fun _ H' => Q .non H', rt := Q } (start N vs) H) : CalG w K mg base CX (k + 1) x st ps sp := by
  obtain ⟨f, fd, F, hm⟩ := D
  exact ⟨f, fd, F, FnG.of F S len fun cdv A outer s H vs Q E hr hA h => hbody f cdv A outer s H vs Q E hr hA h, hm, FunD.bindsX F hb⟩
end
section
variable {X : Cx} {CX : CXT} {k j : Nat} {x : Str} {st : Stmt} {ps : List Str} {sp : Sp} {E : XK} {p pos : Pos} {e : Expr} {es : List Expr} {t : TA} {w : World} {K : PySem.W.Frag} {mg : Str → Option Value} {base : Heap}
theorem pe_cg (c : CalG w K mg base CX k x st ps sp) (hA : X.A.guards = some []) (hr : Room j X.A) (hk : k ≤ j) (hx : Passes CX X E) (ha : PA X (e :: es) t) (hg : Gl X x := by rfl) (h1 : X.prog = PR := by rfl) (h2 : X.w = w := by rfl) (h3 : X.K = K := by rfl) (h4 : X.mg = mg := by rfl) (h5 : X.base = base := by rfl)
    (hdb : (x == ("__debug__" : Str)) = false := by decide) (he : starEach (e :: es) X.env = (false, eval e X.env) :: starEach es X.env := by rfl) (hpl : (backTo pos (starEach es X.env)).any (·.1) = false := by rfl) :
    PE X (.Call (.Name x p) (e :: es) [] pos) (tCall sp [] E t) := by
  subst h2 h3 h4 h5
  obtain ⟨f, fd, F, ok, hm, hb⟩ := c.ex
  have ok' : FnG X.prog X.w X.K X.mg X.base CX k f fd ps sp := by rw [h1]; exact ok
  exact pe_callG ok' hA (hr.mono hk) hg hm F.kp hb hx ha hdb he hpl
end
/-! ### what is asked of the mathematics -/
def bitsOf (m num : Nat) : List Int := (List.range m).map fun i => (num : Int) / 2 ^ i % 2
def trial (ps : List Int) (k : Int) (num : Nat) : Option (List Int) := if isOne (mixF ps (bitsOf ps.length num) k) = true then some (bitsOf ps.length num) else none
def someF (ps : List Int) (k : Int) : List (List Int) := (List.range (2 ^ ps.length)).filterMap (trial ps k)
def freesF (ps : List Int) (k : Int) : List (List Int) := (madeF ps.length).filterMap fun m => freeF ps m k
structure OkP (ps : List Int) (k : Int) : Prop where
  small : ps.length < 7 → (someF ps k).Perm (freesF ps k)
  big : ¬ ps.length < 7 → ∃ u v, choicesF ps k = [u, v] ∧ List.zipWith xb u v = crossF (ps.length - 1) ∧ isOne (mixF ps u k) = true ∧ isOne (mixF ps v k) = true
theorem bitsOf_len (m num : Nat) : (bitsOf m num).length = m := by simp [bitsOf]
theorem bitsOf_bits (m num : Nat) : Bits (bitsOf m num) := fun x hx => by
  obtain ⟨i, _, rfl⟩ := List.mem_map.mp hx
  omega
theorem srt_perm {l l' : List (List Int)} {d : Nat} (h : l.Perm l') (hb : ∀ x ∈ l', Bits x ∧ x.length = d) : srt l = srt l' := by
  refine srt_one hb ((List.mergeSort_perm l leC).trans h) ?_
  have := List.pairwise_mergeSort (le := leC) leC_trans leC_total l
  exact this.imp fun h => by unfold leC at h; simpa using h
theorem srt_srt (l : List (List Int)) : srt (srt l) = srt l := List.mergeSort_of_pairwise (List.pairwise_mergeSort (le := leC) leC_trans leC_total l)
section
variable {w : World} {K : PySem.W.Frag} {mg : Str → Option Value} {base : Heap}
abbrev nChRight : List Str := ["_law_lantern_here", "_law_parities", "_law_burns", "_law_told", "_law_some", "_law_number", "_law_free", "_law_at", "_law_one", "_law_other"]
theorem scChRight : FnScope nChRight ["_law_lantern_here", "_law_parities", "_law_burns"] (defScope sChRight) := ⟨rfl, rfl, rfl, by decide +kernel, rfl, by decide +kernel, by decide +kernel⟩
def spChRight (K : PySem.W.Frag) : Sp := fun vs H Q _ => ∃ (vL : V) (a : Addr) (ps : List Int) (k : Int), vs = [vL, .ref a, .int k] ∧ SqL K H a (ps.map V.int) ∧ Bits ps ∧ ps.length ≤ 59 ∧ (k = 0 ∨ k = 1) ∧ OkP ps k ∧ ∀ H', Same H H' → Q (.bl true) H'
theorem x_chRight {C : Addr} (B : Bt mg) (FC : CalX w K mg base (L2.CX PR w) 5 "free_choices" sFreeCh ["parities", "burns"] (spFreeCh K C)) (D1 : HasD K mg "_law_is_one" sIsOne) (D2 : HasD K mg "_law_mixed" sMixed) (D3 : HasD K mg "_law_crossing" sCrossing)
    (D : HasD K mg "_law_choices_right" sChRight) : CalG w K mg base (L2.CX PR w) 6 "_law_choices_right" sChRight ["_law_lantern_here", "_law_parities", "_law_burns"] (spChRight K) := by
  refine calg_of D scChRight (fun kV doc pm an cdv ct us h => by match us, h with | [u1, u2, u3], _ => rfl) (fun vs H Q E h => ?_) (fun f cdv A outer s H vs Q E hr hA h => ?_)
  · obtain ⟨a, b, c, d, rfl, _⟩ := h; rfl
  · obtain ⟨vL, a, ps, k, rfl, ha, hb, la, hk, ok, q⟩ := h
    have hG : (A.deeper (envOfC "_law_choices_right" (defScope sChRight) s.heap.objs.size f cdv)).guards = some [] := hA
    refine ⟨_, pss_cons (ps_set (i := 3) scChRight.nd rfl (.inl rfl) (pe_cx FC hr (by decide) passL (pa_cons (pv 1) (pa_cons (pv 2) pa_nil))))
      (Evl.pss_cut (ps_if (PW.pt (pw_or (pt_cmpR (op_neD hr.units) (pe_kwx FC kb_freeCh hr (by decide) passL (pk_cons (pv 2) (pk_cons (pe_tupleOf (by rfl) B.tuple (pv 1)) pk_nil))) (pv 3) (nomark _))
          (pw_or (pt_cmpR (op_neD hr.units) (pe_callTy call_list_of (by rfl) B.list boot_list (pa_cons (pv 3) pa_nil)) (pe_callB cr_sortedB (by rfl) B.sorted boot_sorted (pa_cons (pv 3) pa_nil)) (nomark _))
            (pw_or1 (pt_not (pt_val (pe_callB call_isi (by rfl) B.isinstance boot_isinstance (pa_cons (pv 3) (pa_cons (pe_bltn (v := .ty "tuple") (by rfl) B.tuple boot_tuple rfl) pa_nil)))))))))
          (pss_one (ps_ret pe_bl)) pss_nil)
      (Evl.pss_cut (ps_if (pt_cmpR op_lt (pe_callB call_len_seq (by rfl) B.len PySem.boot_len (pa_cons (pv 1) pa_nil)) pe_int (nomark _))
          (pss_cons (ps_set (i := 4) scChRight.nd rfl (.inl rfl) (pe_lst pa_nil))
          (pss_cons (ps_for (passes_of rfl) rfl (pi_range1 (by rfl) B.range (pa_cons (pe_op op_oneShl pe_int (pe_callB call_len_seq (by rfl) B.len PySem.boot_len (pa_cons (pv 1) pa_nil))) pa_nil)) (pg_name (i := 5) scChRight.nd rfl (.inr rfl))
            (pss_cons (ps_set (i := 6) scChRight.nd rfl (.inl rfl) (pe_tupleOf (by rfl) B.tuple (pe_lc (own := [("_law_at", 7)]) rfl scChRight.nd (pi_range1 (by rfl) B.range (pa_cons (pe_callB call_len_seq (by rfl) B.len PySem.boot_len (pa_cons (pv 1) pa_nil)) pa_nil)) (blk_by (N := nChRight) (sc := defScope sChRight) (by decide +kernel))
              (fun _ _ _ _ _ => pg_name (i := 7) scChRight.nd rfl (.inl rfl)) (fun _ _ _ _ _ => pts_nil) (fun _ _ _ _ _ => pe_op op_mod (pe_callTy call_int1 (by rfl) B.int boot_int (pa_cons (pe_op op_shr (pv 5) (pv 7)) pa_nil)) pe_int))))
            (pss_one (ps_set (i := 4) scChRight.nd rfl (.inl rfl) (pe_ifExp (pt_val (pe_cx (x_isOne B D1) hr (by decide) passL (pa_cons (pe_cx (x_mixed B D2) hr (by decide) passL (pa_cons (pv 1) (pa_cons (pv 6) (pa_cons (pv 2) pa_nil)))) pa_nil)))
              (pe_op op_cat (pv 4) (pe_lst (pa_cons (pv 6) pa_nil))) (pv 4))))))
          (pss_one (ps_ret (pe_cmpR op_eq (pe_callB (call_reprD hG) (by rfl) B.repr boot_repr (pa_cons (pv 3) pa_nil)) (pe_callB (call_reprD hG) (by rfl) B.repr boot_repr (pa_cons (pe_tupleOf (by rfl) B.tuple (pe_callB cr_sortedB (by rfl) B.sorted boot_sorted (pa_cons (pv 4) pa_nil))) pa_nil)) (nomark _)))))) pss_nil)
      (Evl.pss_cut (ps_if (PW.pt (pw_or (pt_cmpR op_ne (pe_callB call_len_seq (by rfl) B.len PySem.boot_len (pa_cons (pv 3) pa_nil)) pe_int (nomark _))
          (pw_or1 (pt_cmpR (op_neD hr.units) (pe_lc (own := [("_law_one", 8), ("_law_other", 9)]) (g := gPair K 8 9) rfl scChRight.nd (RZ.pi_zipA (by rfl) B.zip (pa_cons (pe_ix ix_tup (pv 3) pe_int (fun _ _ => rfl)) (pa_cons (pe_ix ix_tup (pv 3) pe_int (fun _ _ => rfl)) pa_nil))) (blk_by (N := nChRight) (sc := defScope sChRight) (by decide +kernel))
              (fun _ _ _ _ _ => pg_tup rfl (pgs_cons (pg_name (i := 8) scChRight.nd rfl (.inl rfl)) (pgs_cons (pg_name (i := 9) scChRight.nd rfl (.inl rfl)) pgs_nil))) (fun _ _ _ _ _ => pts_nil)
              (fun _ _ _ _ _ => pe_op op_mod (pe_callTy call_int1 (by rfl) B.int boot_int (pa_cons (pe_op op_add (pv 8) (pv 9)) pa_nil)) pe_int))
            (pe_cx (x_cross B D3) hr (by decide) passL (pa_cons (pe_op op_add (pe_callB call_len_seq (by rfl) B.len PySem.boot_len (pa_cons (pv 1) pa_nil)) pe_int) pa_nil)) (nomark _)))))
          (pss_one (ps_ret pe_bl)) pss_nil)
      (pss_one (ps_ret (pe_cmpR (op_eqD hr.units) (pe_lc (own := [("_law_free", 6)]) (tt := tNot (tB (tCall (spIsOne K) [] E0 (tCons (tCall (spMixed K) [] E0 (tCons (tVar 1) (tCons (tVar 6) (tCons (tVar 2) tNil)))) tNil)))) rfl scChRight.nd (pi_tup (pv 3)) (blk_by (N := nChRight) (sc := defScope sChRight) (by decide +kernel))
          (fun _ _ _ _ _ => pg_name (i := 6) scChRight.nd rfl (.inl rfl)) (fun _ _ _ _ _ => pts_one (pt_not (pt_val (pe_cx (x_isOne B D1) hr (by decide) passL (pa_cons (pe_cx (x_mixed B D2) hr (by decide) passL (pa_cons (pv 1) (pa_cons (pv 6) (pa_cons (pv 2) pa_nil)))) pa_nil))))) (fun _ _ _ _ _ => pv 6))
        (pe_lst pa_nil) (nomark _))))))), ?_⟩
    obtain ⟨c1, c2, c3⟩ := choices_in_ok (p := ps) k hk
    have cb : ∀ x ∈ choicesF ps k, Bits x ∧ x.length = ps.length := fun x hx => c1 x ((List.mergeSort_perm _ leC).mem_iff.mp hx)
    have cl : (choicesF ps k).length ≤ 4 := by
      have := (List.mergeSort_perm ((madeF ps.length).filterMap fun m => freeF ps m k) leC).length_eq
      show (srt _).length ≤ 4
      unfold srt
      omega
    have c3' : 2 ≤ (choicesF ps k).length → 1 ≤ ps.length := fun z => c3 (by
      have := (List.mergeSort_perm ((madeF ps.length).filterMap fun m => freeF ps m k) leC).length_eq
      have z : 2 ≤ (srt ((madeF ps.length).filterMap fun m => freeF ps m k)).length := z
      unfold srt at z
      omega)
    refine ⟨.ref a, rfl, .int k, rfl, .ref a, .int k, rfl, .inr ⟨ps, ⟨a, rfl, .inl ha, hb, la⟩, .inr ⟨k, rfl, hk, fun t H1 xs s1 ht tp => ?_⟩⟩⟩
    -- not equal, not sorted, no tuple
    refine ⟨fun σ H2 => σ = [some vL, some (.ref a), some (.int k), some (.ref t), none, none, none, none, none, none] ∧ Same H1 H2, ?_, fun σ H2 hM => ?_⟩
    · refine ⟨.int k, rfl, .ref a, rfl, .inl ⟨a, _, rfl, Same.seq s1 ha, fun z nz => ?_⟩⟩
      have sz := same_upd (o := .tup (ps.map V.int)) nz
      refine ⟨.ref z, .int k, rfl, .inr ⟨ps, ⟨z, rfl, .inr (SqT.of upd_same), hb, la⟩, .inr ⟨k, rfl, hk, fun t2 H2 xs2 s2 ht2 tp2 => ?_⟩⟩⟩
      have S2 := sz.trans s2
      refine ⟨.ref t, rfl, pTT (choicesF ps k), pTT (choicesF ps k), dp_pTT ht2 tp2, dp_pTT (Same.seqT S2 ht) (Tps.same S2 tp), shp_pTT _, shp_pTT _, _, rfl, ?_⟩
      rw [eqv_pTT, decide_eq_true rfl]
      refine iteF ?_
      refine ⟨.ref t, rfl, t, xs, rfl, .inr (Same.seqT S2 ht), fun l nl => ?_⟩
      have sl := same_upd (o := .lst xs) nl
      refine ⟨.ref t, rfl, t, xs, choicesF ps k, ps.length, rfl, .inr (Same.seqT (S2.trans sl) ht), Tps.same (S2.trans sl) tp, by omega, c3', cb, fun ys p np ty => ?_⟩
      have sp := same_upd (o := .lst ys) np
      have ess : srt (choicesF ps k) = choicesF ps k := srt_srt _
      rw [ess] at ty
      refine ⟨pLT (choicesF ps k), pLT (choicesF ps k), dp_pLT (.inl (.inl (sp _ _ upd_same))) (Tps.same (S2.trans (sl.trans sp)) tp), dp_pLT (.inl (.inl upd_same)) (Tps.same sp ty), shp_pLT _, shp_pLT _, _, rfl, ?_⟩
      rw [eqv_pLT, decide_eq_true rfl]
      refine iteF ?_
      refine ⟨.ref t, rfl, .ref t, .ty "tuple", .type "tuple", .type "tuple", true, rfl, .ty _, tyT (Same.seqT (S2.trans (sl.trans sp)) ht), kit_ty (by decide +kernel), _, rfl, ?_⟩
      exact iteF ⟨rfl, S2.trans (sl.trans sp)⟩
    obtain ⟨rfl, s2⟩ := hM
    have S02 : Same H H2 := s1.trans s2
    have ha2 : SqL K H2 a (ps.map V.int) := Same.seq S02 ha
    have ht2 := Same.seqT s2 ht
    have tp2 := Tps.same s2 tp
    -- few parities
    refine ⟨fun σ H3 => σ = [some vL, some (.ref a), some (.int k), some (.ref t), none, none, none, none, none, none] ∧ H2 = H3 ∧ ¬ ps.length < 7, ?_, fun σ H3 hM => ?_⟩
    · refine ⟨.ref a, rfl, a, _, rfl, .inl ha2, _, 7, rfl, rfl, _, rfl, ite2 (fun e => ?_) (fun e => ?_)⟩
      · have e : (((ps.map V.int).length : Nat) : Int) < 7 := of_decide_eq_true e
        have hm : ps.length < 7 := by rw [List.length_map] at e; omega
        have pm := ok.small hm
        have e64 : (2 : Nat) ^ ps.length ≤ 64 := Nat.pow_le_pow_right (n := 2) (by decide) (show ps.length ≤ 6 by omega)
        refine ⟨Nat.zero_le _, fun S0 nS0 => ?_⟩
        have sS := same_upd (o := .lst []) nS0
        refine ⟨.ref a, rfl, a, _, rfl, .inl (Same.seq sS ha2), ps.length, rfl, by rw [List.length_map], by omega, _, rfl, ?_, ?_, ?_⟩
        · have : (0 : Int) ≤ 2 ^ ps.length := Int.pow_nonneg (by decide)
          omega
        · have : (2 : Int) ^ ps.length = (((2 : Nat) ^ ps.length : Nat) : Int) := by push_cast; rfl
          omega
        have e2 : ((2 : Int) ^ ps.length).toNat = 2 ^ ps.length := by
          have : (2 : Int) ^ ps.length = (((2 : Nat) ^ ps.length : Nat) : Int) := by push_cast; rfl
          rw [this, Int.toNat_natCast]
        rw [e2]
        refine for_it walk_range (fun i σ Hc => ∃ (S : Addr) (l : List V) (y5 y6 : Option V), σ = [some vL, some (.ref a), some (.int k), some (.ref t), some (.ref S), y5, y6, none, none, none] ∧ Same H2 Hc ∧ Hc S = some (.lst l) ∧ l.length ≤ i ∧ Tps K Hc l ((List.range i).filterMap (trial ps k)))
          ⟨S0, [], none, none, rfl, sS, upd_same, Nat.le_refl _, .nil⟩ (fun _ _ _ _ _ => True.intro) (fun i x σ Hc Hc' hi p y => ?_) (fun σ Hc p => ?_)
        · obtain ⟨S, l, y5, y6, rfl, sc, eS, ll, tl⟩ := p
          obtain ⟨rfl, rfl⟩ := y
          -- free
          refine ⟨.ref a, rfl, a, _, rfl, .inl (Same.seq sc ha2), _, rfl, by omega, by rw [List.length_map]; omega, fun D nD => ?_⟩
          rw [Int.toNat_natCast]
          refine lc_map walk_range (fun j => .int ((i : Int) / 2 ^ j % 2)) nD (line_lt (by rw [List.length_map]; omega)) (fun _ _ => True.intro) (fun j x Ha Hb hj sa yy Q' kk => ?_) (fun Hd sd ed => ?_)
          · obtain ⟨rfl, rfl⟩ := yy
            refine ⟨rfl, .int (0 + (i : Int)), rfl, .int (0 + (j : Int)), rfl, _, _, rfl, rfl, by omega, .inl ⟨_, rfl, _, 2, rfl, rfl, (show (0 : Int) < 2 by decide), ?_⟩⟩
            rw [Int.zero_add, Int.zero_add, Int.toNat_natCast]
            exact kk Hb (Same.refl _)
          refine .inl ⟨D, _, rfl, .inl (.inl ed), fun fr nf => ?_⟩
          have efr : (List.range (ps.map V.int).length).map (fun j => V.int ((i : Int) / 2 ^ j % 2)) = (bitsOf ps.length i).map V.int := by
            unfold bitsOf
            rw [List.map_map, List.length_map]
            rfl
          rw [efr]
          have sf := same_upd (o := .tup ((bitsOf ps.length i).map V.int)) nf
          have hf : SqT K (upd Hd fr (.tup ((bitsOf ps.length i).map V.int))) fr ((bitsOf ps.length i).map V.int) := SqT.of upd_same
          have S1 := sd.trans sf
          -- the test
          refine ⟨.ref a, rfl, .ref fr, rfl, .int k, rfl, a, fr, ps, bitsOf ps.length i, k, rfl, .inl (Same.seq (sc.trans S1) ha2), .inr hf, bitsOf_len _ _, by omega, fun mx H4 s4 hmx => ?_⟩
          refine ⟨mx, mixF ps (bitsOf ps.length i) k, rfl, hmx, by rw [mixF_length (bitsOf_len _ _)]; omega, fun H5 s5 => ?_⟩
          have S5 := S1.trans (s4.trans s5)
          have tl5 := Tps.same S5 tl
          have rg : (List.range (i + 1)).filterMap (trial ps k) = (List.range i).filterMap (trial ps k) ++ (trial ps k i).toList := by
            rw [List.range_succ, List.filterMap_append]
            congr 1
          refine ⟨_, rfl, ite2 (fun e => ?_) (fun e => ?_)⟩
          · refine ⟨.ref S, rfl, .ref fr, rfl, line_small (by simp), fun w1 nw => ?_⟩
            have sw := same_upd (o := .lst [.ref fr]) nw
            refine ⟨S, w1, l, _, rfl, rfl, sw _ _ (S5 _ _ eS), upd_same, line_small (by simp; omega), fun w2 nw2 => ?_⟩
            have sw2 := same_upd (o := .lst (l ++ [.ref fr])) nw2
            refine ⟨w2, l ++ [.ref fr], _, _, rfl, sc.trans (S5.trans (sw.trans sw2)), upd_same, by simp; omega, ?_⟩
            rw [rg, show trial ps k i = some (bitsOf ps.length i) by unfold trial; rw [if_pos e]]
            exact Tps.append (Tps.same (sw.trans sw2) tl5) (.cons ⟨fr, rfl, Same.seqT ((s4.trans s5).trans (sw.trans sw2)) hf⟩ .nil)
          · refine ⟨.ref S, rfl, S, l, _, _, rfl, sc.trans S5, S5 _ _ eS, by omega, ?_⟩
            rw [rg, show trial ps k i = none by unfold trial; rw [if_neg e]]
            rw [Option.toList_none, List.append_nil]
            exact tl5
        · obtain ⟨S, l, y5, y6, rfl, sc, eS, ll, tl⟩ := p
          have sb : ∀ x ∈ someF ps k, Bits x ∧ x.length = ps.length := fun x hx => c1 x (pm.mem_iff.mp hx)
          have esrt : srt (someF ps k) = choicesF ps k := srt_perm pm c1
          have hd1 := sh_pTT (l := choicesF ps k) (by omega) (fun x hx => ⟨(cb x hx).1, by rw [(cb x hx).2]; omega⟩)
          refine ⟨.ref t, rfl, .ref t, pTT (choicesF ps k), rfl, ⟨t, rfl⟩, dp_pTT (Same.seqT sc ht2) (Tps.same sc tp2), hd1.1, hd1.2.1, Nat.lt_of_le_of_lt (Nat.add_le_add_left (by have := hd1.2.2.1; omega) _) hr.units, hd1.2.2.2, ?_⟩
          have lsm : (someF ps k).length ≤ 4 := by rw [pm.length_eq]; exact c2
          refine ⟨.ref S, rfl, S, l, someF ps k, ps.length, rfl, .inl (.inl (.inl eS)), tl, by omega, fun z => c3 (show 2 ≤ (freesF ps k).length by rw [← pm.length_eq]; exact z), sb, fun ys p np ty => ?_⟩
          rw [esrt] at ty
          refine .inl ⟨p, ys, rfl, .inl (.inl upd_same), fun p2 np2 => ?_⟩
          have sp := (same_upd (o := .lst ys) np).trans (same_upd (o := .tup ys) np2)
          refine ⟨.ref p2, pTT (choicesF ps k), rfl, ⟨p2, rfl⟩, dp_pTT (SqT.of upd_same) (Tps.same sp ty), hd1.1, hd1.2.1, Nat.lt_of_le_of_lt (Nat.add_le_add_left (by have := hd1.2.2.1; omega) _) hr.units, hd1.2.2.2, rfl, ?_⟩
          rw [decide_eq_true rfl]
          exact q _ (S02.trans (sc.trans sp))
      · refine ⟨rfl, rfl, fun z => e (decide_eq_true ?_)⟩
        rw [List.length_map]; omega
    obtain ⟨rfl, rfl, hbig⟩ := hM
    obtain ⟨u, v, euv, ecr, iu, iv⟩ := ok.big hbig
    have lu : u.length = ps.length := (cb u (by rw [euv]; simp)).2
    have lv : v.length = ps.length := (cb v (by rw [euv]; simp)).2
    rw [euv] at tp2
    obtain ⟨x1, x2, rfl, t1, t2⟩ : ∃ x1 x2, xs = [x1, x2] ∧ TupI K H2 x1 u ∧ TupI K H2 x2 v := by
      cases tp2 with
      | cons r1 r =>
        cases r with
        | cons r2 r =>
          cases r
          exact ⟨_, _, rfl, r1, r2⟩
    obtain ⟨a1, rfl, h1⟩ := t1
    obtain ⟨a2, rfl, h2⟩ := t2
    -- two, and the crossing
    refine ⟨fun σ H3 => σ = [some vL, some (.ref a), some (.int k), some (.ref t), none, none, none, none, none, none] ∧ Same H2 H3, ?_, fun σ H3 hM => ?_⟩
    · refine ⟨.ref t, rfl, t, _, rfl, .inr ht2, rfl, _, rfl, iteF ?_⟩
      refine ⟨.ref t, rfl, t, _, 0, _, rfl, rfl, ht2, atI_nat (j := 0) rfl, .ref t, rfl, t, _, 1, _, rfl, rfl, ht2, atI_nat (j := 1) rfl, a1, a2, _, _, rfl, .inr ⟨h1, h2, fun D nD => ?_⟩⟩
      refine lc_map (walk_zipT (n := min u.length v.length) (by simp)) (fun i => .int (xb (u.getD i 0) (v.getD i 0))) nD (line_lt (by rw [lu]; omega)) (fun _ sm => ⟨Same.seqT sm h1, Same.seqT sm h2⟩) (fun i x Ha Hb hi sa yy Q' kk => ?_) (fun Hd sd ed => ?_)
      · obtain ⟨T, x1, x2, rfl, nT, rfl, f1, f2⟩ := yy
        have g1 := map_get f1
        have g2 := map_get f2
        subst g1 g2
        exact ⟨T, _, rfl, SqT.of upd_same, rfl, _, _, rfl, _, _, rfl, rfl, rfl, _, rfl, _, rfl, _, _, rfl, rfl, .inl ⟨_, rfl, _, 2, rfl, rfl, (show (0 : Int) < 2 by decide), kk _ (same_upd nT)⟩⟩
      · rw [zw_map, ecr] at ed
        refine ⟨.ref a, rfl, a, _, rfl, .inl (Same.seq sd ha2), _, 1, rfl, rfl, ps.length - 1, by show [V.int ((((ps.map V.int).length : Nat) : Int) + 1)] = _; rw [List.length_map, show ((ps.length : Nat) : Int) + 1 = ((ps.length - 1 : Nat) : Int) + 2 by omega], by omega, fun R H4 s4 eR => ?_⟩
        refine ⟨pL (crossF (ps.length - 1)), pL (crossF (ps.length - 1)), dp_pL (.inl (.inl (s4 _ _ ed))), dp_pL (.inl (.inl eR)), shp_pL _, shp_pL _, _, rfl, ?_⟩
        rw [eqv_pL, decide_eq_true rfl]
        exact iteF ⟨rfl, sd.trans s4⟩
    obtain ⟨rfl, s3⟩ := hM
    -- none that is not of one hand
    refine ⟨.ref t, rfl, t, rfl, ⟨_, Same.seqT s3 ht2⟩, fun D nD => ?_⟩
    refine lc_filt (walk_tup (xs := [V.ref a1, V.ref a2])) (fun _ => false) (fun _ => .non) nD (line_lt (show 2 ≤ 1000 by decide)) (fun _ sm => Same.seqT sm (Same.seqT s3 ht2)) (fun j x Ha Hb hj sa yy Qa Qn ka kn => ?_) (fun He se ee => ?_)
    · obtain ⟨rfl, yx⟩ := yy
      have S3 := s3.trans sa
      have hx : ∃ (ax : Addr) (fr : List Int), x = .ref ax ∧ SqT K Hb ax (fr.map V.int) ∧ fr.length = ps.length ∧ isOne (mixF ps fr k) = true := by
        match j, yx with
        | 0, yx => exact ⟨a1, u, (Option.some.inj yx).symm, Same.seqT S3 h1, lu, iu⟩
        | 1, yx => exact ⟨a2, v, (Option.some.inj yx).symm, Same.seqT S3 h2, lv, iv⟩
      obtain ⟨ax, fr, rfl, hf, lf, io⟩ := hx
      refine ⟨rfl, .ref a, rfl, .ref ax, rfl, .int k, rfl, a, ax, ps, fr, k, rfl, .inl (Same.seq S3 ha2), .inr hf, lf, by omega, fun mx H4 s4 hmx => ?_⟩
      refine ⟨mx, mixF ps fr k, rfl, hmx, by rw [mixF_length lf]; omega, fun H5 s5 => ⟨_, rfl, ?_⟩⟩
      rw [io]
      exact kn rfl H5 (s4.trans s5)
    · have e0 : ((List.range [V.ref a1, V.ref a2].length).filter (fun _ => false)).map (fun _ => V.non) = [] := rfl
      rw [e0] at ee
      refine ⟨Nat.zero_le _, fun R nR => ?_⟩
      have sR := same_upd (o := .lst []) nR
      refine ⟨pLT [], pLT [], dp_pLT (.inl (.inl (sR _ _ ee))) .nil, dp_pLT (.inl (.inl upd_same)) .nil, shp_pLT _, shp_pLT _, ?_⟩
      rw [eqv_pLT, decide_eq_true rfl]
      exact q _ (S02.trans (s3.trans (se.trans sR)))
end
end K60
set_option maxHeartbeats 4000000
namespace K60
open PySem PySem.Spec PyProof.Rows L2 LamX
/-! ### _law_heard -/
abbrev nHeard : List Str := ["_law_ask", "_law_caught", "error"]
theorem scHeard : FnScope nHeard ["_law_ask"] (defScope sHeard) := ⟨rfl, rfl, rfl, by decide +kernel, rfl, by decide +kernel, by decide +kernel⟩
/-- what the caller gets: the lambda raises BadNumber of the part p -/
def TTheard (C : Addr) : (XK → Hp → VK → Prop) → Hp → VK → Prop := fun tl H Q => ∀ Qn : VK,
  tl (fun cls d H' => cls = .ref C ∧ ∃ (dd : Addr) (p : Str), d = some dd ∧ H' dd = some (.xd [("part", .str p)]) ∧ ∀ t H3, Same H' H3 → H' t = none → H3 t = some (.tup [.str "number", .str p]) → Q (.ref t) H3) H Qn
theorem heard_gives {X : Cx} {C fI CL : Addr} {g : Addr} {cdg : Value} {q : Str} (T : NumTxt X.K X.mg C fI) (N : NumIs X.K C) (B : Bt X.mg) (hL : X.mg "LampError" = some (.ref CL)) (hC : X.mg "BadNumber" = some (.ref C)) (hex : PySem.W.exmOne X.K (.ref C) (.ref CL) = some true) :
    GivesTo1 X nHeard "_law_heard" (defScope sHeard) g cdg (defBody sHeard) "_law_ask" q (TTheard C) := by
  intro f c' s H Q tl act hc h
  refine ⟨_, pss_cons (ps_set (i := 1) scHeard.nd rfl (.inl rfl) pe_non)
    (pss_cons (ps_try_keep (cl := .ref CL) (i := 2) (j := 1) (tb := fun W D σ H => ∃ Ech : XK, (∀ cls d σ' H', σ'.length = nHeard.length → Ech cls d H' → W cls d σ' H') ∧ σ[0]? = some (some (.ref f)) ∧ H c' = some (CodeO c' q) ∧ tl Ech H fun _ H1 => D.nx σ H1)
      rfl rfl rfl scHeard.nd rfl rfl rfl rfl ⟨by rfl, by decide, .inl hL⟩ (by decide) (by decide) (by rfl) (fun W pn xe tk _ => ?_))
    (pss_cons (ps_if (pt_val (pe_callB (call_isK T N) (by rfl) B.isinstance boot_isinstance (pa_cons (pv 1) (pa_cons (pe_glob (v := .ref C) (by rfl) hC rfl) pa_nil))))
      (pss_one (ps_ret (pe_tup (pa_cons pe_str (pa_cons (pe_part T (pv 1)) pa_nil))))) pss_nil) pss_never)), ?_⟩
  · refine ⟨fun pins s' σ H' D I h' => ?_⟩
    obtain ⟨Ech, hW, h1, h2, h3⟩ := h'
    exact (pss_one (ps_expr (act W pn xe Ech _ _ tk hW))).run pins s' σ H' D I ⟨h1, h2, h3⟩
  · refine ⟨fun cls d H' => cls = .ref C ∧ ∃ (dd : Addr) (p : Str), d = some dd ∧ H' dd = some (.xd [("part", .str p)]) ∧ ∀ t H3, Same H' H3 → H' t = none → H3 t = some (.tup [.str "number", .str p]) → Q (.ref t) H3, fun cls d σ' H' hl he => ?_, rfl, hc, h _⟩
    obtain ⟨rfl, dd, p, rfl, ed, k⟩ := he
    match σ', hl with
    | [x, y, z], _ =>
      refine ⟨hex, fun a na => ?_⟩
      have nad : dd ≠ a := ne_of_none ed na
      refine ⟨.ref a, rfl, a, dd, _, rfl, upd_same, by rw [upd_ne nad]; exact ed, _, rfl, iteT ?_⟩
      refine ⟨.ref a, rfl, a, dd, .str p, rfl, upd_same, by rw [upd_ne nad]; exact ed, two_line, fun t nt => ?_⟩
      exact k t _ ((same_upd na).trans (same_upd nt)) ((same_upd na).free nt) upd_same
end K60
set_option maxHeartbeats 4000000
namespace K60
open PySem PySem.Spec PyProof.Rows L2 LamX
/-! ### the heap over lambdas: tables grow -/
theorem ExtN.seqL {K : PySem.W.Frag} {H H' : Hp} {a : Addr} {xs : List V} (e : ExtN H H') (h : SqL K H a xs) : SqL K H' a xs := by
  rcases h with (h | ⟨o, h⟩) | h
  · exact .inl (.inl (e _ _ h fun ps z => by cases z))
  · exact .inl (.inr ⟨o, e _ _ h fun ps z => by cases z⟩)
  · exact .inr h
theorem ExtN.seqT {K : PySem.W.Frag} {H H' : Hp} {a : Addr} {xs : List V} (e : ExtN H H') (h : SqT K H a xs) : SqT K H' a xs := by
  rcases h with (h | ⟨o, h⟩) | h
  · exact .inl (.inl (e _ _ h fun ps z => by cases z))
  · exact .inl (.inr ⟨o, e _ _ h fun ps z => by cases z⟩)
  · exact .inr h
theorem ExtN.seq {K : PySem.W.Frag} {H H' : Hp} {a : Addr} {xs : List V} (e : ExtN H H') (h : Seq K H a xs) : Seq K H' a xs := h.imp (ExtN.seqL e) (ExtN.seqT e)
theorem ExtN.pl {K : PySem.W.Frag} {H H' : Hp} {v : V} (e : ExtN H H') (p : Pl K H v) : Pl K H' v := by
  cases p with
  | non => exact .non
  | bl b => exact .bl b
  | int i => exact .int i
  | str x => exact .str x
  | lst a xs q => exact .lst a xs (ExtN.seqL e q)
  | tup a xs q => exact .tup a xs (ExtN.seqT e q)
  | dk a kvs q => exact .dk a kvs (e _ _ q fun ps z => by cases z)
theorem ExtN.nb {K : PySem.W.Frag} {H H' : Hp} {v : V} (e : ExtN H H') (h : NotBits K H v) : NotBits K H' v := by
  rcases h with h | ⟨a, xs, rfl, h1, h2⟩
  · refine .inl ?_
    cases h with
    | non => exact .non
    | int i => exact .int i
    | str x => exact .str x
    | dk a kvs q => exact .dk a kvs (e _ _ q fun ps z => by cases z)
  · exact .inr ⟨a, xs, rfl, ExtN.seq e h1, h2.imp id fun ⟨h3, h4⟩ => ⟨fun x hx => ExtN.pl e (h3 x hx), h4⟩⟩
theorem ExtN.good {K : PySem.W.Frag} {H H' : Hp} {v : V} {ns : List Int} (e : ExtN H H') (h : Good K H v ns) : Good K H' v ns := by
  obtain ⟨a, e1, q, b⟩ := h
  exact ⟨a, e1, ExtN.seq e q, b⟩
/-- all but the lantern and the tables stays -/
def LExt (L : Addr) (H H' : Hp) : Prop := ∀ b o, b ≠ L → H b = some o → (∀ ps, o ≠ .tbl ps) → H' b = some o
theorem LExt.of {L : Addr} {H H' : Hp} (e : LSame L H H') : LExt L H H' := fun b o n h _ => e b o n h
theorem LExt.ext {L : Addr} {H H' : Hp} (e : ExtN H H') : LExt L H H' := fun b o _ h n => e b o h n
theorem LExt.trans {L : Addr} {H H1 H2 : Hp} (a : LExt L H H1) (b : LExt L H1 H2) : LExt L H H2 := fun c o n h k => b c o n (a c o n h k) k
theorem LExt.seqL {K : PySem.W.Frag} {L a : Addr} {H H' : Hp} {xs : List V} (s : LExt L H H') (n : a ≠ L) (h : SqL K H a xs) : SqL K H' a xs := by
  rcases h with (h | ⟨o, h⟩) | h
  · exact .inl (.inl (s _ _ n h fun ps z => by cases z))
  · exact .inl (.inr ⟨o, s _ _ n h fun ps z => by cases z⟩)
  · exact .inr h
theorem LExt.seqT {K : PySem.W.Frag} {L a : Addr} {H H' : Hp} {xs ls : List V} (s : LExt L H H') (e : H L = some (.lst ls)) (h : SqT K H a xs) : SqT K H' a xs := by
  rcases h with (h | ⟨o, h⟩) | h
  · exact .inl (.inl (s _ _ (fun z => by rw [z, e] at h; cases h) h fun ps z => by cases z))
  · exact .inl (.inr ⟨o, s _ _ (fun z => by rw [z, e] at h; cases h) h fun ps z => by cases z⟩)
  · exact .inr h
theorem LanB.ext {H H' : Hp} {L c : Addr} {n : Nat} (h : LanB H L c n) (s : ExtN H H') : LanB H' L c n := by
  obtain ⟨cs, t, l, e, e2, r⟩ := h.ex
  exact ⟨cs, t, l, s _ _ e (fun ps z => by cases z), s _ _ e2 (fun ps z => by cases z), r⟩
theorem tabs_lsame {T : List (Addr × Str)} {L : Addr} {H H' : Hp} {ls : List V} (t : Tabs T H) (e : H L = some (.lst ls)) (s : LSame L H H') : Tabs T H' := fun p hp => by
  obtain ⟨ps, h1, h2, h3⟩ := t p hp
  refine ⟨ps, s _ _ (fun z => by rw [z, e] at h1; cases h1) h1, h2, fun pos cv hc => ?_⟩
  obtain ⟨c, e1, e2⟩ := h3 pos cv hc
  refine ⟨c, e1, s _ _ (fun z => ?_) e2⟩
  rw [z, e] at e2
  have e2' := Option.some.inj e2
  unfold CodeO at e2'
  cases e2'
theorem tabs_same {T : List (Addr × Str)} {H H' : Hp} (t : Tabs T H) (s : Same H H') : Tabs T H' := t.ext s
/-! ### asked -/
/-- «x(lambda: ..)» is answered by ("number", p) -/
theorem tlam_go {T : List (Addr × Str)} {C : Addr} {t : XK → TE} {σ : L2.St} {H : Hp} {Q : VK} (p : Str) (hT : Tabs T H) (ht : ∀ H1 E Qn, ExtN H H1 → Bad C p H1 E → t E σ H1 Qn) (k : ∀ tt H3, ExtN H H3 → Tabs T H3 → H3 tt = some (.tup [.str "number", .str p]) → Q (.ref tt) H3) : tLam T (TTheard C) t σ H Q := by
  refine ⟨hT, fun H1 e1 T1 Qn => ht H1 _ Qn e1 fun H' d s' ed => ⟨rfl, d, p, rfl, ed, fun tt H3 s3 _ et => k tt H3 ?_ (T1.ext (s'.trans s3)) et⟩⟩
  exact e1.trans (ExtN.of (s'.trans s3))
structure HasC (K : PySem.W.Frag) (mg : Str → Option Value) (x : Str) (st : Stmt) (c : Addr) : Prop where
  ex : ∃ f fd, FunD K x x (defArgs st) (defBody st) (defScope st) [] [] f fd ∧ mg x = some (.ref f) ∧ fd.code = .ref c
section
variable {w : World} {K : PySem.W.Frag} {mg : Str → Option Value} {base : Heap}
/-- a def whose code object is known -/
theorem calx_ofC {CX : CXT} {k : Nat} {x : Str} {st : Stmt} {N ps : List Str} {sp : Sp} {c : Addr} (D : HasC K mg x st c) (S : FnScope N ps (defScope st))
    (hb : ∀ (kV doc pm : Value) (an : Option Addr) (cdv ct : Value) (us : List Value), us.length = ps.length → bindArgs (PySem.W.fnOf x x (defArgs st) (defBody st) (defScope st) .none kV doc pm an cdv ct) ⟨us, []⟩ = pure (ps.zip us))
    (len : ∀ vs H Q E, sp vs H Q E → vs.length = ps.length)
    (hbody : ∀ (f : Addr) (A : Around) (outer : List Env) (s : Shared) (H : Hp) (vs : List V) (Q : VK) (E : XK), Room k (A.deeper (envOfC x (defScope st) s.heap.objs.size f (.ref c))) → sp vs H Q E →
      ∃ t, PSs (cxOf CX PR w K mg base N x (defScope st) f (.ref c) A outer s H E) (defBody st) t ∧ t { nx := fun _ H' => Q .non H', rt := Q } (start N vs) H) : CalX w K mg base CX (k + 1) x st ps sp := by
  obtain ⟨f, fd, F, hm, hc⟩ := D.ex
  have hb' := FunD.bindsX F hb
  have F0 := F
  obtain ⟨oc, od, dV, kV, doc, pm, an, cdv, ct, osl, rfl, lk, hcd, df, _⟩ := F.ex
  have e : cdv = .ref c := hc
  subst e
  exact ⟨f, _, F0, fn_of lk hcd S len fun A outer s H vs Q E hr hsp => hbody f A outer s H vs Q E hr hsp, hm, hb'⟩
end
section
variable {X : Cx}
/-- _law_heard(lambda ..: ..) -/
theorem pe_ask {T : List (Addr × Str)} {C fI CL c P : Addr} {k : Nat} {params : Arguments} {body : Expr} {scope : Scope} {t : XK → TE} {p lpos pos : Pos} {one : Bool} (hD : HasD X.K X.mg "_law_heard" sHeard) (NT : NumTxt X.K X.mg C fI) (NI : NumIs X.K C) (B : Bt X.mg) (hL : X.mg "LampError" = some (.ref CL)) (hC : X.mg "BadNumber" = some (.ref C))
    (hex : PySem.W.exmOne X.K (.ref C) (.ref CL) = some true) (TB : LamX.TabB X.base X.mg c P) (hcode : X.env.code = .ref c) (hmT : (P, X.env.qual ++ "<lambda>") ∈ T) (hu : ∀ p ∈ T, p.1 = P → p.2 = X.env.qual ++ "<lambda>") (hr : Room (k + 2) X.A) (L : LamS1 X.N X.env.scope scope) (hp : LamP params one)
    (hbind : LamBind (X.env.qual ++ "<lambda>") params body scope one)
    (hbody : ∀ (A : Around) (outer : List Env) (s : Shared) (H : Hp) (E : XK) (f c' : Addr), Room k (A.deeper (lamEnv X scope s.heap.objs.size f c')) → PE (lamCx X A outer s H E scope f c') body (t E)) (hg : Gl X "_law_heard" := by rfl) :
    PE X (.Call (.Name "_law_heard" p) [.Lambda params body scope lpos] [] pos) (tLam T (TTheard C) t) := by
  obtain ⟨g, fd, F, hm⟩ := hD
  have hb : L2.Binds X.K fd ["_law_ask"] [] := FunD.bindsX F fun kV doc pm an cdv ct us h => by match us, h with | [u], _ => rfl
  have hk := F.kp
  obtain ⟨oc, od, dV, kV, doc, pm, an, cdv, ct, osl, rfl, lk, hcd, df, _⟩ := F.ex
  exact pe_lamcall1 hg hm hk lk hcd hb scHeard rfl (.inl rfl) (heard_gives NT NI B hL hC hex) TB hcode hmT hu hr L hp hbind hbody
end
/-- what binds such a lambda's parameter -/
theorem lamBind0 {q : Str} {body : Expr} {scope : Scope} : LamBind q ⟨[], [], none, [], [], none, []⟩ body scope false := fun cl dV pm cv ctv s d => by
  have d : dV = .none := d
  subst d
  exact ⟨[], fun y hy => absurd hy (by simp), .of_eq (by rfl)⟩
theorem lamBind1 {q : Str} {body : Expr} {scope : Scope} {p : Pos} {e : Expr} (hs : scope.names.lookup ("_law_a1" : Str) = some NameKind.local) : LamBind q ⟨[], [⟨"_law_a1", none, p⟩], none, [], [], none, [e]⟩ body scope true := fun cl dV pm cv ctv s d => by
  obtain ⟨T, tk, rfl, h⟩ := d
  refine ⟨[("_law_a1", .int 0 tk)], fun y hy => by rw [List.mem_singleton.mp hy]; exact hs, .of_defaults (T := T) (items := #[Value.int 0 tk]) (n := 0) rfl h rfl (by rfl) ?_⟩
  rfl
theorem lamBind2 {q : Str} {body : Expr} {scope : Scope} {p : Pos} {e : Expr} (hs : scope.names.lookup ("_law_a2" : Str) = some NameKind.local) : LamBind q ⟨[], [⟨"_law_a2", none, p⟩], none, [], [], none, [e]⟩ body scope true := fun cl dV pm cv ctv s d => by
  obtain ⟨T, tk, rfl, h⟩ := d
  refine ⟨[("_law_a2", .int 0 tk)], fun y hy => by rw [List.mem_singleton.mp hy]; exact hs, .of_defaults (T := T) (items := #[Value.int 0 tk]) (n := 0) rfl h rfl (by rfl) ?_⟩
  rfl
theorem lamP0 : LamP ⟨[], [], none, [], [], none, []⟩ false := ⟨fun _ _ => rfl, fun h => (by cases h), rfl⟩
theorem lamP1 {a : Arg} {k : Nat} {p : Pos} : LamP ⟨[], [a], none, [], [], none, [.Constant (.int 0) k p]⟩ true := ⟨fun h => (by cases h), fun _ _ => ⟨k, p, rfl⟩, rfl⟩
end K60
set_option maxHeartbeats 4000000
namespace K60
open PySem PySem.Spec PyProof.Rows L2 LamX
abbrev qLam : Str := ("_law_refused_right" : Str) ++ ".<locals>." ++ "<lambda>"
abbrev tabT (P : Addr) : List (Addr × Str) := [(P, qLam)]
abbrev nRef : List Str := ["_law_lantern_here", "_law_at", "_law_heard_here", "_law_bad", "_law_burns", "_law_good", "_law_odd"]
theorem scRef : FnScope nRef ["_law_lantern_here"] (defScope sRefused) := ⟨rfl, rfl, rfl, by decide +kernel, rfl, by decide +kernel, by decide +kernel⟩
def spRef (P : Addr) : Sp := fun vs H Q _ => ∃ (L c : Addr) (n : Nat), vs = [.ref L] ∧ LanB H L c n ∧ n + 20 < 1000000 ∧ Tabs (tabT P) H ∧ ∀ H', LExt L H H' → LanB H' L c (n + 20) → Tabs (tabT P) H' → Q (.bl true) H'
def pHeard : PyData := .list [.tuple [.str "number", .str "parities"], .tuple [.str "number", .str "free"], .tuple [.str "number", .str "burns"], .tuple [.str "number", .str "parities"], .tuple [.str "number", .str "burns"]]
section
variable {w : World} {K : PySem.W.Frag} {mg : Str → Option Value} {base : Heap}
/-- no bits, whatever becomes of the lantern -/
def NBs (L : Addr) (K : PySem.W.Frag) (H : Hp) (v : V) : Prop := ∀ H', LSame L H H' → NotBits K H' v
def OddS (L : Addr) (K : PySem.W.Frag) (H : Hp) (v : V) (n : Nat) : Prop := ∀ H', LSame L H H' → NotBits K H' v ∨ ∃ fs, Good K H' v fs ∧ fs.length ≠ n
def BurS (L : Addr) (K : PySem.W.Frag) (H : Hp) (v : V) : Prop := (∀ H', LSame L H H' → Pl K H' v) ∧ inB v = false
theorem NBs.ls {L : Addr} {H H' : Hp} {v : V} (h : NBs L K H v) (s : LSame L H H') : NBs L K H' v := fun H2 s2 => h H2 (s.trans s2)
theorem OddS.ls {L : Addr} {H H' : Hp} {v : V} {n : Nat} (h : OddS L K H v n) (s : LSame L H H') : OddS L K H' v n := fun H2 s2 => h H2 (s.trans s2)
structure GoodAt (L c G : Addr) (ns : List Int) (H0 H : Hp) (N : Nat) : Prop where
  ls : LSame L H0 H
  lan : LanB H L c N
  g : H G = some (.lst (ns.map V.int))
  gL : G ≠ L
  b : Bits ns
  l1 : 1 ≤ ns.length
  l5 : ns.length ≤ 5
theorem neL {H : Hp} {x L : Addr} {o : HO} (h : H x = none) (e : H L = some o) : x ≠ L := fun z => by rw [z, e] at h; cases h
abbrev tK (C : Addr) (K : PySem.W.Frag) (i j : Nat) : XK → TE := fun E => tCall (spKnown K C) [] E (tCons (tVar i) (tCons (tVar j) (tCons (tVar 4) tNil)))
abbrev tF (C : Addr) (K : PySem.W.Frag) (i : Nat) : XK → TE := fun E => tCall (spFreeCh K C) [] E (tCons (tVar i) (tCons (tVar 4) tNil))
theorem x_refused {C fI CL c P : Addr} (B : Bt mg) (NT : NumTxt K mg C fI) (NI : NumIs K C) (hL : mg "LampError" = some (.ref CL)) (hC : mg "BadNumber" = some (.ref C)) (hex : PySem.W.exmOne K (.ref C) (.ref CL) = some true)
    (FK : CalX w K mg base (L2.CX PR w) 5 "known_parities" sKnown ["parities", "free", "burns"] (spKnown K C)) (FC : CalX w K mg base (L2.CX PR w) 5 "free_choices" sFreeCh ["parities", "burns"] (spFreeCh K C))
    (D1 : HasD K mg "_law_flame_by" sFlame) (D2 : HasD K mg "_law_pick" sPick) (D3 : HasD K mg "_law_bits" sBits) (D4 : HasD K mg "_law_heard" sHeard) (TB : LamX.TabB base mg c P) (D : HasC K mg "_law_refused_right" sRefused c) :
    CalX w K mg base (L2.CX PR w) 8 "_law_refused_right" sRefused ["_law_lantern_here"] (spRef P) := by
  refine calx_ofC D scRef (fun kV doc pm an cdv ct us h => by match us, h with | [u1], _ => rfl) (fun vs H Q E h => ?_) (fun f A outer s H vs Q E hr h => ?_)
  · obtain ⟨L, c, n, rfl, _⟩ := h; rfl
  · obtain ⟨L, c1, n, rfl, lan, hn, hT, q⟩ := h
    refine ⟨_, Evl.pss_cut (ps_set (i := 5) scRef.nd rfl (.inr rfl) (pe_cx (x_bits B D1 D3) hr (by decide) passL (pa_cons (pv 0) (pa_cons (pe_op op_add pe_int (pe_cx (x_flame B D1) hr (by decide) passL (pa_cons (pv 0) (pa_cons pe_int pa_nil)))) pa_nil))))
      (Evl.pss_cut (ps_set (i := 1) scRef.nd rfl (.inl rfl) (pe_cx (x_flame B D1) hr (by decide) passL (pa_cons (pv 0) (pa_cons (pe_callB call_len_seq (by rfl) B.len PySem.boot_len (pa_cons (pv 5) pa_nil)) pa_nil))))
      (Evl.pss_cut (ps_set (i := 3) scRef.nd rfl (.inr rfl) (pe_cx (x_pick B D1 D2) hr (by decide) passL (pa_cons (pv 0) (pa_cons (pe_lst (pa_cons pe_non (pa_cons pe_int (pa_cons pe_str (pa_cons pe_dnewK
          (pa_cons (pe_op op_cat (pe_op op_cat (pe_slice sl_list (pv 5) po_none (po_some (pv 1))) (pe_lst (pa_cons (pe_cx (x_pick B D1 D2) hr (by decide) passL (pa_cons (pv 0) (pa_cons (pe_lst (pa_cons pe_int (pa_cons (pe_un un_neg pe_int) (pa_cons pe_bl (pa_cons pe_non (pa_cons pe_str (pa_cons (pe_lst (pa_cons pe_int pa_nil)) pa_nil))))))) pa_nil))) pa_nil)))
            (pe_slice sl_list (pv 5) (po_some (pe_op op_add (pv 1) pe_int)) po_none))
          (pa_cons (pe_op op_rep (pe_lst (pa_cons pe_int pa_nil)) pe_int) (pa_cons (pe_lst (pa_cons (pv 5) pa_nil)) pa_nil)))))))) pa_nil))))
      (Evl.pss_cut (ps_asg (pe_tup (pa_cons (pe_cx (x_pick B D1 D2) hr (by decide) passL (pa_cons (pv 0) (pa_cons (pe_lst (pa_cons (pv 3) (pa_cons (pe_op op_cat (pv 5) (pe_lst (pa_cons pe_int pa_nil))) (pa_cons (pe_slice sl_list (pv 5) po_none (po_some (pe_un un_neg pe_int))) pa_nil)))) pa_nil)))
          (pa_cons (pe_cx (x_pick B D1 D2) hr (by decide) passL (pa_cons (pv 0) (pa_cons (pe_lst (pa_cons pe_int (pa_cons (pe_un un_neg pe_int) (pa_cons pe_bl (pa_cons pe_bl (pa_cons pe_non (pa_cons pe_str (pa_cons (pe_lst (pa_cons pe_int pa_nil)) pa_nil)))))))) pa_nil))) pa_nil)))
        (pg_tup rfl (pgs_cons (pg_name (i := 6) scRef.nd rfl (.inr rfl)) (pgs_cons (pg_name (i := 4) scRef.nd rfl (.inr rfl)) pgs_nil))))
      (Evl.pss_cut (ps_set (i := 2) scRef.nd rfl (.inl rfl) (pe_lst (pa_cons (pe_ask (k := 5) (T := tabT P) (t := tK C K 3 6) D4 NT NI B hL hC hex TB rfl (List.mem_singleton.mpr rfl) (fun p hp _ => by rw [List.mem_singleton.mp hp]; rfl) hr (lamS1_by (N := nRef) (sc := defScope sRefused) (by decide +kernel)) lamP0 lamBind0
            (fun _ _ _ _ E _ _ hr2 => pe_cx (E := E) FK hr2 (by decide) (passes_call (takes_of rfl rfl rfl rfl) fun _ _ _ _ h => h) (pa_cons (pv 3) (pa_cons (pv 6) (pa_cons (pv 4) pa_nil)))))
          (pa_cons (pe_ask (k := 5) (T := tabT P) (t := tK C K 5 6) D4 NT NI B hL hC hex TB rfl (List.mem_singleton.mpr rfl) (fun p hp _ => by rw [List.mem_singleton.mp hp]; rfl) hr (lamS1_by (N := nRef) (sc := defScope sRefused) (by decide +kernel)) lamP1 (lamBind1 (by rfl))
            (fun _ _ _ _ E _ _ hr2 => pe_cx (E := E) FK hr2 (by decide) (passes_call (takes_of rfl rfl rfl rfl) fun _ _ _ _ h => h) (pa_cons (pv 5) (pa_cons (pv 6) (pa_cons (pv 4) pa_nil)))))
          (pa_cons (pe_ask (k := 5) (T := tabT P) (t := tK C K 5 5) D4 NT NI B hL hC hex TB rfl (List.mem_singleton.mpr rfl) (fun p hp _ => by rw [List.mem_singleton.mp hp]; rfl) hr (lamS1_by (N := nRef) (sc := defScope sRefused) (by decide +kernel)) lamP1 (lamBind2 (by rfl))
            (fun _ _ _ _ E _ _ hr2 => pe_cx (E := E) FK hr2 (by decide) (passes_call (takes_of rfl rfl rfl rfl) fun _ _ _ _ h => h) (pa_cons (pv 5) (pa_cons (pv 5) (pa_cons (pv 4) pa_nil))))) pa_nil)))))
      (Evl.pss_cut (ps_set (i := 2) scRef.nd rfl (.inl rfl) (pe_op op_cat (pv 2) (pe_lst (pa_cons (pe_ask (k := 5) (T := tabT P) (t := tF C K 3) D4 NT NI B hL hC hex TB rfl (List.mem_singleton.mpr rfl) (fun p hp _ => by rw [List.mem_singleton.mp hp]; rfl) hr (lamS1_by (N := nRef) (sc := defScope sRefused) (by decide +kernel)) lamP0 lamBind0
            (fun _ _ _ _ E _ _ hr2 => pe_cx (E := E) FC hr2 (by decide) (passes_call (takes_of rfl rfl rfl rfl) fun _ _ _ _ h => h) (pa_cons (pv 3) (pa_cons (pv 4) pa_nil))))
          (pa_cons (pe_ask (k := 5) (T := tabT P) (t := tF C K 5) D4 NT NI B hL hC hex TB rfl (List.mem_singleton.mpr rfl) (fun p hp _ => by rw [List.mem_singleton.mp hp]; rfl) hr (lamS1_by (N := nRef) (sc := defScope sRefused) (by decide +kernel)) lamP1 (lamBind1 (by rfl))
            (fun _ _ _ _ E _ _ hr2 => pe_cx (E := E) FC hr2 (by decide) (passes_call (takes_of rfl rfl rfl rfl) fun _ _ _ _ h => h) (pa_cons (pv 5) (pa_cons (pv 4) pa_nil)))) pa_nil)))))
      (pss_one (ps_ret (pe_cmpR (op_eqD hr.units) (pv 2) (pe_lst (pa_cons (pe_tup (pa_cons pe_str (pa_cons pe_str pa_nil))) (pa_cons (pe_tup (pa_cons pe_str (pa_cons pe_str pa_nil))) (pa_cons (pe_tup (pa_cons pe_str (pa_cons pe_str pa_nil))) (pa_cons (pe_tup (pa_cons pe_str (pa_cons pe_str pa_nil))) (pa_cons (pe_tup (pa_cons pe_str (pa_cons pe_str pa_nil))) pa_nil)))))) (nomark _))))))))), ?_⟩
    obtain ⟨lL, eL0⟩ := lan.at
    -- good
    refine ⟨fun σ H1 => ∃ (G : Addr) (ns : List Int), σ = [some (.ref L), none, none, none, none, some (.ref G), none] ∧ GoodAt L c1 G ns H H1 (n + 6), ?_, fun σ H1 hM => ?_⟩
    · refine ⟨.ref L, rfl, .ref L, rfl, L, c1, n, 5, rfl, lan, by omega, by omega, by omega, fun r Ha r0 r1 sa la => ?_⟩
      refine ⟨1, r, rfl, rfl, L, c1, n + 1, (1 + r).toNat, by rw [Int.toNat_of_nonneg (by omega)]; rfl, la, by omega, by omega, fun G ns Hb sb nG gL eG bG lG lb => ?_⟩
      exact ⟨G, ns, rfl, sa.trans sb, lb.mono (by omega), eG, gL, bG, by omega, by omega⟩
    obtain ⟨G, ns, rfl, g1⟩ := hM
    -- at
    refine ⟨fun σ H2 => ∃ k : Nat, σ = [some (.ref L), some (.int (k : Int)), none, none, none, some (.ref G), none] ∧ k < ns.length ∧ GoodAt L c1 G ns H H2 (n + 7), ?_, fun σ H2 hM => ?_⟩
    · refine ⟨.ref L, rfl, .ref G, rfl, G, _, rfl, .inl (.inl (.inl g1.g)), L, c1, n + 6, _, rfl, g1.lan, by omega, by rw [List.length_map]; have := g1.l1; omega, by rw [List.length_map]; have := g1.l5; omega, fun r Ha r0 r1 sa la => ?_⟩
      rw [List.length_map] at r1
      refine ⟨r.toNat, by rw [Int.toNat_of_nonneg r0]; rfl, by omega, g1.ls.trans sa, la, sa _ _ g1.gL g1.g, g1.gL, g1.b, g1.l1, g1.l5⟩
    obtain ⟨k, rfl, hk, g2⟩ := hM
    have l5 := g2.l5
    have l1 := g2.l1
    -- bad
    refine ⟨fun σ H3 => ∃ vb : V, σ = [some (.ref L), some (.int (k : Int)), none, some vb, none, some (.ref G), none] ∧ NBs L K H3 vb ∧ GoodAt L c1 G ns H H3 (n + 9), ?_, fun σ H3 hM => ?_⟩
    · obtain ⟨l2, eL2⟩ := g2.lan.at
      refine ⟨.ref L, rfl, fun e ne => ?_⟩
      have se := same_upd (o := HO.dK []) ne
      have ee : (upd H2 e (.dK [])) e = some (.dK []) := upd_same
      have eL_ := neL ne eL2
      generalize upd H2 e (.dK []) = Ha at se ee ⊢
      refine ⟨.ref G, rfl, .int (k : Int), rfl, (k : Int), rfl, G, _, rfl, .inl (.inl (se _ _ g2.g)), fun s1 n1 => ?_⟩
      rw [cutTake]
      have ss1 := same_upd (o := HO.lst ((ns.map V.int).take k)) n1
      have es1 : (upd Ha s1 (.lst ((ns.map V.int).take k))) s1 = some (.lst ((ns.map V.int).take k)) := upd_same
      have s1L := neL n1 (se _ _ eL2)
      generalize upd Ha s1 (.lst ((ns.map V.int).take k)) = Hb at ss1 es1 ⊢
      refine ⟨.ref L, rfl, 1, rfl, line_small (by simp), fun w0 nw0 => ?_⟩
      have sw0 := same_upd (o := HO.lst [.int 0]) nw0
      have ew0 : (upd Hb w0 (.lst [.int 0])) w0 = some (.lst [.int 0]) := upd_same
      have w0L := neL nw0 (ss1 _ _ (se _ _ eL2))
      generalize upd Hb w0 (.lst [.int 0]) = Hc at sw0 ew0 ⊢
      refine ⟨line_small (by simp), fun w1 nw1 => ?_⟩
      have sw1 := same_upd (o := HO.lst [.int 2, .int (-1), .bl true, .non, .str "0", .ref w0]) nw1
      have ew1 : (upd Hc w1 (.lst [.int 2, .int (-1), .bl true, .non, .str "0", .ref w0])) w1 = some (.lst [.int 2, .int (-1), .bl true, .non, .str "0", .ref w0]) := upd_same
      have w1L := neL nw1 (sw0 _ _ (ss1 _ _ (se _ _ eL2)))
      have SD : Same H2 (upd Hc w1 (.lst [.int 2, .int (-1), .bl true, .non, .str "0", .ref w0])) := se.trans (ss1.trans (sw0.trans sw1))
      generalize upd Hc w1 (.lst [.int 2, .int (-1), .bl true, .non, .str "0", .ref w0]) = Hd at sw1 ew1 SD ⊢
      refine ⟨L, c1, w1, n + 7, _, rfl, g2.lan.same SD, by omega, .inl (.inl ew1), w1L, by simp, by simp, fun v Hi hv si li => ?_⟩
      obtain ⟨li2, eLi⟩ := li.at
      refine ⟨line_small (by simp), fun b nb => ?_⟩
      have sb := same_upd (o := HO.lst [v]) nb
      have eb : (upd Hi b (.lst [v])) b = some (.lst [v]) := upd_same
      generalize upd Hi b (.lst [v]) = He at sb eb ⊢
      have es1i : Hi s1 = some (.lst ((ns.map V.int).take k)) := si _ _ s1L (sw1 _ _ (sw0 _ _ es1))
      refine ⟨s1, b, _, _, rfl, rfl, sb _ _ es1i, eb, line_small (by simp; omega), fun m1 nm1 => ?_⟩
      have sm1 := same_upd (o := HO.lst ((ns.map V.int).take k ++ [v])) nm1
      have em1 : (upd He m1 (.lst ((ns.map V.int).take k ++ [v]))) m1 = some (.lst ((ns.map V.int).take k ++ [v])) := upd_same
      generalize upd He m1 (.lst ((ns.map V.int).take k ++ [v])) = Hf at sm1 em1 ⊢
      have eGi : Hi G = some (.lst (ns.map V.int)) := si _ _ g2.gL (SD _ _ g2.g)
      refine ⟨.ref G, rfl, .int (k : Int), rfl, (k : Int), 1, rfl, rfl, (k : Int) + 1, rfl, G, _, rfl, .inl (.inl (sm1 _ _ (sb _ _ eGi))), fun s2 n2 => ?_⟩
      generalize ed : cutV (ns.map V.int) (some ((k : Int) + 1)) none = dr
      have ldr : dr.length ≤ 5 := by
        rw [← ed]
        unfold cutV
        rw [List.length_take, List.length_drop, List.length_map]
        omega
      have pdr : ∀ x ∈ dr, ∃ i, x = V.int i := fun x hx => by
        rw [← ed] at hx
        unfold cutV at hx
        obtain ⟨i, _, rfl⟩ := List.mem_map.mp (List.mem_of_mem_drop (List.mem_of_mem_take hx))
        exact ⟨i, rfl⟩
      have ss2 := same_upd (o := HO.lst dr) n2
      have es2 : (upd Hf s2 (.lst dr)) s2 = some (.lst dr) := upd_same
      generalize upd Hf s2 (.lst dr) = Hg at ss2 es2 ⊢
      refine ⟨m1, s2, _, _, rfl, rfl, ss2 _ _ em1, es2, line_small (by simp; omega), fun m nm => ?_⟩
      have sm := same_upd (o := HO.lst (((ns.map V.int).take k ++ [v]) ++ dr)) nm
      have em : (upd Hg m (.lst (((ns.map V.int).take k ++ [v]) ++ dr))) m = some (.lst (((ns.map V.int).take k ++ [v]) ++ dr)) := upd_same
      have mL := neL nm (ss2 _ _ (sm1 _ _ (sb _ _ eLi)))
      generalize upd Hg m (.lst (((ns.map V.int).take k ++ [v]) ++ dr)) = Hh at sm em ⊢
      have SI : Same Hi Hh := sb.trans (sm1.trans (ss2.trans sm))
      refine ⟨line_small (by simp), fun z0 nz0 => ?_⟩
      have sz0 := same_upd (o := HO.lst [.int 0]) nz0
      have ez0 : (upd Hh z0 (.lst [.int 0])) z0 = some (.lst [.int 0]) := upd_same
      generalize upd Hh z0 (.lst [.int 0]) = Hj at sz0 ez0 ⊢
      refine ⟨z0, 60, _, rfl, rfl, ez0, by omega, by omega, line_small (by simp), fun z nz => ?_⟩
      have zl : ((List.replicate (Int.toNat 60) [V.int 0]).flatten).length = 60 := by decide
      have sz := same_upd (o := HO.lst (List.replicate (Int.toNat 60) [V.int 0]).flatten) nz
      have ez : (upd Hj z (.lst (List.replicate (Int.toNat 60) [V.int 0]).flatten)) z = some (.lst (List.replicate (Int.toNat 60) [V.int 0]).flatten) := upd_same
      have zL := neL nz (sz0 _ _ (SI _ _ eLi))
      generalize upd Hj z (.lst (List.replicate (Int.toNat 60) [V.int 0]).flatten) = Hk at sz ez ⊢
      refine ⟨.ref G, rfl, line_small (by simp), fun gg ngg => ?_⟩
      have sgg := same_upd (o := HO.lst [.ref G]) ngg
      have egg : (upd Hk gg (.lst [.ref G])) gg = some (.lst [.ref G]) := upd_same
      have ggL := neL ngg (sz _ _ (sz0 _ _ (SI _ _ eLi)))
      generalize upd Hk gg (.lst [.ref G]) = Hl at sgg egg ⊢
      refine ⟨line_small (by simp), fun AA nA => ?_⟩
      have sA := same_upd (o := HO.lst [.non, .int 5, .str "01", .ref e, .ref m, .ref z, .ref gg]) nA
      have eA : (upd Hl AA (.lst [.non, .int 5, .str "01", .ref e, .ref m, .ref z, .ref gg])) AA = some (.lst [.non, .int 5, .str "01", .ref e, .ref m, .ref z, .ref gg]) := upd_same
      have S2 : Same Hi Hl := SI.trans (sz0.trans (sz.trans sgg))
      have AL := neL nA (S2 _ _ eLi)
      have S3 : Same Hi (upd Hl AA (.lst [.non, .int 5, .str "01", .ref e, .ref m, .ref z, .ref gg])) := S2.trans sA
      generalize upd Hl AA (.lst [.non, .int 5, .str "01", .ref e, .ref m, .ref z, .ref gg]) = Hm at sA eA S3 ⊢
      refine ⟨L, c1, AA, n + 8, _, rfl, li.same S3, by omega, .inl (.inl eA), AL, by simp, by simp, fun vb H3 hvb s3 l3 => ?_⟩
      have T1 : LSame L Hd H3 := si.trans ((LSame.of S3).trans s3)
      refine ⟨vb, rfl, fun H' s' => ?_, ⟨g2.ls.trans ((LSame.of SD).trans T1), l3.mono (by omega), s3 _ _ g2.gL (S3 _ _ eGi), g2.gL, g2.b, g2.l1, g2.l5⟩⟩
      have T2 := s3.trans s'
      have eG' : SqL K H' G (ns.map V.int) := .inl (.inl (T2 _ _ g2.gL (S3 _ _ eGi)))
      rcases List.mem_cons.mp hvb with rfl | hvb
      · exact .inl .non
      rcases List.mem_cons.mp hvb with rfl | hvb
      · exact .inl (.int 5)
      rcases List.mem_cons.mp hvb with rfl | hvb
      · exact .inl (.str _)
      rcases List.mem_cons.mp hvb with rfl | hvb
      · exact .inl (.dk e [] (T1.trans s' _ _ eL_ (sw1 _ _ (sw0 _ _ (ss1 _ _ ee)))))
      rcases List.mem_cons.mp hvb with rfl | hvb
      · refine .inr ⟨m, _, rfl, .inl (.inl (.inl (T2 _ _ mL (sA _ _ (sgg _ _ (sz _ _ (sz0 _ _ em))))))), .inr ⟨fun x hx => ?_, v, by simp, ?_⟩⟩
        · rcases List.mem_append.mp hx with hx | hx
          · rcases List.mem_append.mp hx with hx | hx
            · obtain ⟨i, _, rfl⟩ := List.mem_map.mp (List.mem_of_mem_take hx)
              exact .int i
            · rw [List.mem_singleton.mp hx]
              have ew0' : SqL K H' w0 [.int 0] := .inl (.inl (T1.trans s' _ _ w0L (sw1 _ _ ew0)))
              rcases List.mem_cons.mp hv with rfl | hv
              · exact .int _
              rcases List.mem_cons.mp hv with rfl | hv
              · exact .int _
              rcases List.mem_cons.mp hv with rfl | hv
              · exact .bl _
              rcases List.mem_cons.mp hv with rfl | hv
              · exact .non
              rcases List.mem_cons.mp hv with rfl | hv
              · exact .str _
              · rw [List.mem_singleton.mp hv]
                exact .lst w0 _ ew0'
          · obtain ⟨i, rfl⟩ := pdr x hx
            exact .int i
        · rcases List.mem_cons.mp hv with rfl | hv
          · rfl
          rcases List.mem_cons.mp hv with rfl | hv
          · rfl
          rcases List.mem_cons.mp hv with rfl | hv
          · rfl
          rcases List.mem_cons.mp hv with rfl | hv
          · rfl
          rcases List.mem_cons.mp hv with rfl | hv
          · rfl
          · rw [List.mem_singleton.mp hv]
            rfl
      rcases List.mem_cons.mp hvb with rfl | hvb
      · exact .inr ⟨z, _, rfl, .inl (.inl (.inl (T2 _ _ zL (sA _ _ (sgg _ _ ez))))), .inl (by rw [zl]; decide)⟩
      · rw [List.mem_singleton.mp hvb]
        exact .inr ⟨gg, _, rfl, .inl (.inl (.inl (T2 _ _ ggL (sA _ _ egg)))), .inr ⟨fun x hx => by rw [List.mem_singleton.mp hx]; exact .lst G _ eG', .ref G, by simp, rfl⟩⟩
    obtain ⟨vb, rfl, nbb, g3⟩ := hM
    obtain ⟨l3, eL3⟩ := g3.lan.at
    -- odd, burns
    refine ⟨fun σ H4 => ∃ vo vu : V, σ = [some (.ref L), some (.int (k : Int)), none, some vb, some vu, some (.ref G), some vo] ∧ NBs L K H4 vb ∧ OddS L K H4 vo ns.length ∧ BurS L K H4 vu ∧ GoodAt L c1 G ns H H4 (n + 11), ?_, fun σ H4 hM => ?_⟩
    · refine ⟨.ref L, rfl, vb, rfl, .ref G, rfl, line_small (by simp), fun a na => ?_⟩
      have sa := same_upd (o := HO.lst [.int 0]) na
      have ea : (upd H3 a (.lst [.int 0])) a = some (.lst [.int 0]) := upd_same
      generalize upd H3 a (.lst [.int 0]) = Ha at sa ea ⊢
      refine ⟨G, a, _, _, rfl, rfl, sa _ _ g3.g, ea, line_small (by simp; omega), fun p1 np1 => ?_⟩
      have sp1 := same_upd (o := HO.lst (ns.map V.int ++ [.int 0])) np1
      have ep1 : (upd Ha p1 (.lst (ns.map V.int ++ [.int 0]))) p1 = some (.lst (ns.map V.int ++ [.int 0])) := upd_same
      have p1L := neL np1 (sa _ _ eL3)
      generalize upd Ha p1 (.lst (ns.map V.int ++ [.int 0])) = Hb at sp1 ep1 ⊢
      refine ⟨.ref G, rfl, 1, rfl, -1, rfl, G, _, rfl, .inl (.inl (sp1 _ _ (sa _ _ g3.g))), fun p2 np2 => ?_⟩
      rw [cutInit, ← List.map_dropLast]
      have sp2 := same_upd (o := HO.lst (ns.dropLast.map V.int)) np2
      have ep2 : (upd Hb p2 (.lst (ns.dropLast.map V.int))) p2 = some (.lst (ns.dropLast.map V.int)) := upd_same
      have p2L := neL np2 (sp1 _ _ (sa _ _ eL3))
      generalize upd Hb p2 (.lst (ns.dropLast.map V.int)) = Hc at sp2 ep2 ⊢
      refine ⟨line_small (by simp), fun AA nA => ?_⟩
      have sA := same_upd (o := HO.lst [vb, .ref p1, .ref p2]) nA
      have eA : (upd Hc AA (.lst [vb, .ref p1, .ref p2])) AA = some (.lst [vb, .ref p1, .ref p2]) := upd_same
      have AL := neL nA (sp2 _ _ (sp1 _ _ (sa _ _ eL3)))
      have SC : Same H3 (upd Hc AA (.lst [vb, .ref p1, .ref p2])) := sa.trans (sp1.trans (sp2.trans sA))
      generalize upd Hc AA (.lst [vb, .ref p1, .ref p2]) = Hd at sA eA SC ⊢
      refine ⟨L, c1, AA, n + 9, _, rfl, g3.lan.same SC, by omega, .inl (.inl eA), AL, by simp, by simp, fun vo H4 hvo s4 l4 => ?_⟩
      obtain ⟨l4', eL4⟩ := l4.at
      refine ⟨.ref L, rfl, 1, rfl, line_small (by simp), fun w0 nw0 => ?_⟩
      have sw0 := same_upd (o := HO.lst [.int 1]) nw0
      have ew0 : (upd H4 w0 (.lst [.int 1])) w0 = some (.lst [.int 1]) := upd_same
      have w0L := neL nw0 eL4
      generalize upd H4 w0 (.lst [.int 1]) = He at sw0 ew0 ⊢
      refine ⟨line_small (by simp), fun w1 nw1 => ?_⟩
      have sw1 := same_upd (o := HO.lst [.int 2, .int (-1), .bl true, .bl false, .non, .str "1", .ref w0]) nw1
      have ew1 : (upd He w1 (.lst [.int 2, .int (-1), .bl true, .bl false, .non, .str "1", .ref w0])) w1 = some (.lst [.int 2, .int (-1), .bl true, .bl false, .non, .str "1", .ref w0]) := upd_same
      have w1L := neL nw1 (sw0 _ _ eL4)
      generalize upd He w1 (.lst [.int 2, .int (-1), .bl true, .bl false, .non, .str "1", .ref w0]) = Hf at sw1 ew1 ⊢
      refine ⟨L, c1, w1, n + 10, _, rfl, l4.same (sw0.trans sw1), by omega, .inl (.inl ew1), w1L, by simp, by simp, fun vu H5 hvu s5 l5' => ?_⟩
      refine ⟨two_line, fun T nT => ?_⟩
      refine ⟨T, _, rfl, SqT.of upd_same, rfl, _, _, rfl, _, _, rfl, rfl, ?_⟩
      have sT := same_upd (o := HO.tup [vo, vu]) nT
      generalize upd H5 T (.tup [vo, vu]) = H6 at sT ⊢
      have R4 : LSame L H4 H6 := (LSame.of (sw0.trans sw1)).trans (s5.trans (LSame.of sT))
      have R3 : LSame L Hd H6 := s4.trans R4
      have R : LSame L H3 H6 := (LSame.of SC).trans R3
      refine ⟨vo, vu, rfl, nbb.ls R, fun H' s' => ?_, ⟨fun H' s' => ?_, ?_⟩, ⟨g3.ls.trans R, (l5'.same sT).mono (by omega), R _ _ g3.gL g3.g, g3.gL, g3.b, g3.l1, g3.l5⟩⟩
      · rcases List.mem_cons.mp hvo with rfl | hvo
        · exact .inl (nbb H' (R.trans s'))
        rcases List.mem_cons.mp hvo with rfl | hvo
        · refine .inr ⟨ns ++ [0], ⟨p1, rfl, .inl (.inl (.inl ?_)), fun x hx => ?_, by simp; omega⟩, by simp⟩
          · have := R3.trans s' _ _ p1L (sA _ _ (sp2 _ _ ep1))
            rw [this, List.map_append]
            rfl
          · rcases List.mem_append.mp hx with hx | hx
            · exact g3.b x hx
            · rw [List.mem_singleton.mp hx]; exact .inl rfl
        · rw [List.mem_singleton.mp hvo]
          refine .inr ⟨ns.dropLast, ⟨p2, rfl, .inl (.inl (.inl (R3.trans s' _ _ p2L (sA _ _ ep2)))), fun x hx => g3.b x ((List.dropLast_sublist ns).subset hx), by simp; omega⟩, by simp; omega⟩
      · have ew0' : SqL K H' w0 [.int 1] := .inl (.inl ((s5.trans (LSame.of sT)).trans s' _ _ w0L (sw1 _ _ ew0)))
        rcases List.mem_cons.mp hvu with rfl | hvu
        · exact .int _
        rcases List.mem_cons.mp hvu with rfl | hvu
        · exact .int _
        rcases List.mem_cons.mp hvu with rfl | hvu
        · exact .bl _
        rcases List.mem_cons.mp hvu with rfl | hvu
        · exact .bl _
        rcases List.mem_cons.mp hvu with rfl | hvu
        · exact .non
        rcases List.mem_cons.mp hvu with rfl | hvu
        · exact .str _
        · rw [List.mem_singleton.mp hvu]
          exact .lst w0 _ ew0'
      · rcases List.mem_cons.mp hvu with rfl | hvu
        · rfl
        rcases List.mem_cons.mp hvu with rfl | hvu
        · rfl
        rcases List.mem_cons.mp hvu with rfl | hvu
        · rfl
        rcases List.mem_cons.mp hvu with rfl | hvu
        · rfl
        rcases List.mem_cons.mp hvu with rfl | hvu
        · rfl
        rcases List.mem_cons.mp hvu with rfl | hvu
        · rfl
        · rw [List.mem_singleton.mp hvu]
          rfl
    obtain ⟨vo, vu, rfl, nb4, od4, bu4, g4⟩ := hM
    have T4 : Tabs (tabT P) H4 := tabs_lsame hT eL0 g4.ls
    have nb0 := nb4 H4 (LSame.refl _ _)
    have od0 := od4 H4 (LSame.refl _ _)
    have bu0 := bu4.1 H4 (LSame.refl _ _)
    have gd0 : Good K H4 (.ref G) ns := ⟨G, rfl, .inl (.inl (.inl g4.g)), g4.b, by omega⟩
    -- three asked
    refine ⟨fun σ H5 => ∃ l t1 t2 t3 : Addr, σ = [some (.ref L), some (.int (k : Int)), some (.ref l), some vb, some vu, some (.ref G), some vo] ∧ ExtN H4 H5 ∧ Tabs (tabT P) H5 ∧ H5 l = some (.lst [.ref t1, .ref t2, .ref t3]) ∧
      H5 t1 = some (.tup [.str "number", .str "parities"]) ∧ H5 t2 = some (.tup [.str "number", .str "free"]) ∧ H5 t3 = some (.tup [.str "number", .str "burns"]), ?_, fun σ H5 hM => ?_⟩
    · refine tlam_go "parities" T4 (fun H1 E Qn e1 bd => ⟨vb, rfl, vo, rfl, vu, rfl, vb, vo, vu, rfl, .inl ⟨ExtN.nb e1 nb0, bd⟩⟩) fun t1 Ha ea Ta a1 => ?_
      refine tlam_go "free" Ta (fun H1 E Qn e1 bd => ⟨.ref G, rfl, vo, rfl, vu, rfl, .ref G, vo, vu, rfl, .inr ⟨ns, ExtN.good (ea.trans e1) gd0, ?_⟩⟩) fun t2 Hb eb Tb a2 => ?_
      · rcases od0 with nb | ⟨fs, gf, nf⟩
        · exact .inl ⟨ExtN.nb (ea.trans e1) nb, bd⟩
        · exact .inr ⟨fs, ExtN.good (ea.trans e1) gf, .inl ⟨nf, bd⟩⟩
      refine tlam_go "burns" Tb (fun H1 E Qn e1 bd => ⟨.ref G, rfl, .ref G, rfl, vu, rfl, .ref G, .ref G, vu, rfl, .inr ⟨ns, ExtN.good (ea.trans (eb.trans e1)) gd0, .inr ⟨ns, ExtN.good (ea.trans (eb.trans e1)) gd0, .inr ⟨rfl, .inl ⟨ExtN.pl (ea.trans (eb.trans e1)) bu0, bu4.2, bd⟩⟩⟩⟩⟩) fun t3 Hc ec Tc a3 => ?_
      refine ⟨line_small (by simp), fun l nl => ?_⟩
      have sl := same_upd (o := HO.lst [.ref t1, .ref t2, .ref t3]) nl
      refine ⟨l, t1, t2, t3, rfl, ea.trans (eb.trans (ec.trans (ExtN.of sl))), Tc.ext sl, upd_same, sl _ _ (ec _ _ (eb _ _ a1 fun ps z => by cases z) fun ps z => by cases z), sl _ _ (ec _ _ a2 fun ps z => by cases z), sl _ _ a3⟩
    obtain ⟨l, t1, t2, t3, rfl, e5, T5, el, a1, a2, a3⟩ := hM
    -- two more
    refine ⟨fun σ H6 => ∃ m t4 t5 : Addr, σ = [some (.ref L), some (.int (k : Int)), some (.ref m), some vb, some vu, some (.ref G), some vo] ∧ ExtN H5 H6 ∧ Tabs (tabT P) H6 ∧ H6 m = some (.lst [.ref t1, .ref t2, .ref t3, .ref t4, .ref t5]) ∧
      H6 t4 = some (.tup [.str "number", .str "parities"]) ∧ H6 t5 = some (.tup [.str "number", .str "burns"]), ?_, fun σ H6 hM => ?_⟩
    · refine ⟨.ref l, rfl, ?_⟩
      refine tlam_go "parities" T5 (fun H1 E Qn e1 bd => ⟨vb, rfl, vu, rfl, vb, vu, rfl, .inl ⟨ExtN.nb (e5.trans e1) nb0, bd⟩⟩) fun t4 Ha ea Ta a4 => ?_
      refine tlam_go "burns" Ta (fun H1 E Qn e1 bd => ⟨.ref G, rfl, vu, rfl, .ref G, vu, rfl, .inr ⟨ns, ExtN.good (e5.trans (ea.trans e1)) gd0, .inl ⟨ExtN.pl (e5.trans (ea.trans e1)) bu0, bu4.2, bd⟩⟩⟩) fun t5 Hb eb Tb a5 => ?_
      refine ⟨line_small (by simp), fun y ny => ?_⟩
      have sy := same_upd (o := HO.lst [.ref t4, .ref t5]) ny
      have elb : Hb l = some (.lst [.ref t1, .ref t2, .ref t3]) := eb _ _ (ea _ _ el fun ps z => by cases z) fun ps z => by cases z
      refine ⟨l, y, _, _, rfl, rfl, sy _ _ elb, upd_same, line_small (by simp), fun m nm => ?_⟩
      have sm := same_upd (o := HO.lst ([.ref t1, .ref t2, .ref t3] ++ [.ref t4, .ref t5])) nm
      have S := sy.trans sm
      exact ⟨m, t4, t5, rfl, ea.trans (eb.trans (ExtN.of S)), Tb.ext S, upd_same, S _ _ (eb _ _ a4 fun ps z => by cases z), S _ _ a5⟩
    obtain ⟨m, t4, t5, rfl, e6, T6, em, a4, a5⟩ := hM
    have b1 := e6 _ _ a1 fun ps z => by cases z
    have b2 := e6 _ _ a2 fun ps z => by cases z
    have b3 := e6 _ _ a3 fun ps z => by cases z
    refine ⟨.ref m, rfl, two_line, fun x1 y1 => ⟨two_line, fun x2 y2 => ⟨two_line, fun x3 y3 => ⟨two_line, fun x4 y4 => ⟨two_line, fun x5 y5 => ⟨line_small (by simp), fun x6 y6 => ?_⟩⟩⟩⟩⟩⟩
    have z1 := same_upd (o := HO.tup [.str "number", .str "parities"]) y1
    have c1' : (upd H6 x1 (.tup [.str "number", .str "parities"])) x1 = some (.tup [.str "number", .str "parities"]) := upd_same
    generalize upd H6 x1 (.tup [.str "number", .str "parities"]) = Ha at z1 c1' y2 y3 y4 y5 y6 ⊢
    have z2 := same_upd (o := HO.tup [.str "number", .str "free"]) y2
    have c2' : (upd Ha x2 (.tup [.str "number", .str "free"])) x2 = some (.tup [.str "number", .str "free"]) := upd_same
    generalize upd Ha x2 (.tup [.str "number", .str "free"]) = Hb at z2 c2' y3 y4 y5 y6 ⊢
    have z3 := same_upd (o := HO.tup [.str "number", .str "burns"]) y3
    have c3' : (upd Hb x3 (.tup [.str "number", .str "burns"])) x3 = some (.tup [.str "number", .str "burns"]) := upd_same
    generalize upd Hb x3 (.tup [.str "number", .str "burns"]) = Hc at z3 c3' y4 y5 y6 ⊢
    have z4 := same_upd (o := HO.tup [.str "number", .str "parities"]) y4
    have c4' : (upd Hc x4 (.tup [.str "number", .str "parities"])) x4 = some (.tup [.str "number", .str "parities"]) := upd_same
    generalize upd Hc x4 (.tup [.str "number", .str "parities"]) = Hd at z4 c4' y5 y6 ⊢
    have z5 := same_upd (o := HO.tup [.str "number", .str "burns"]) y5
    have c5' : (upd Hd x5 (.tup [.str "number", .str "burns"])) x5 = some (.tup [.str "number", .str "burns"]) := upd_same
    generalize upd Hd x5 (.tup [.str "number", .str "burns"]) = He at z5 c5' y6 ⊢
    have z6 := same_upd (o := HO.lst [.ref x1, .ref x2, .ref x3, .ref x4, .ref x5]) y6
    have c6' : (upd He x6 (.lst [.ref x1, .ref x2, .ref x3, .ref x4, .ref x5])) x6 = some (.lst [.ref x1, .ref x2, .ref x3, .ref x4, .ref x5]) := upd_same
    generalize upd He x6 (.lst [.ref x1, .ref x2, .ref x3, .ref x4, .ref x5]) = Hf at z6 c6' ⊢
    have W5 := z6
    have W4 := z5.trans W5
    have W3 := z4.trans W4
    have W2 := z3.trans W3
    have W1 := z2.trans W2
    have W0 := z1.trans W1
    have tp : ∀ (x : Addr) (a b : Str), Hf x = some (.tup [.str a, .str b]) → Dp K Hf (.ref x) (.tuple [.str a, .str b]) := fun x a b e => .tup (SqT.of e) (.cons (.str a) (.cons (.str b) .nil))
    refine ⟨pHeard, pHeard, .lst (.inl (.inl (W0 _ _ em))) (.cons (tp _ _ _ (W0 _ _ b1)) (.cons (tp _ _ _ (W0 _ _ b2)) (.cons (tp _ _ _ (W0 _ _ b3)) (.cons (tp _ _ _ (W0 _ _ a4)) (.cons (tp _ _ _ (W0 _ _ a5)) .nil))))),
      .lst (.inl (.inl c6')) (.cons (tp _ _ _ (W1 _ _ c1')) (.cons (tp _ _ _ (W2 _ _ c2')) (.cons (tp _ _ _ (W3 _ _ c3')) (.cons (tp _ _ _ (W4 _ _ c4')) (.cons (tp _ _ _ (W5 _ _ c5')) .nil))))), by decide +kernel, by decide +kernel, ?_⟩
    rw [show PyData.eqv pHeard pHeard = true by decide +kernel]
    have EX : ExtN H4 Hf := e5.trans (e6.trans (ExtN.of W0))
    exact q Hf ((LExt.of g4.ls).trans (LExt.ext EX)) ((g4.lan.ext EX).mono (by omega)) (T6.ext W0)
end
end K60
set_option maxHeartbeats 0
namespace K60
open PySem PySem.Spec PyProof.Rows L2
/-! ### few parities: every case is tried -/
def allB : Nat → List (List Int)
  | 0 => [[]]
  | n + 1 => (allB n).map (0 :: ·) ++ (allB n).map (1 :: ·)
theorem allB_mem : ∀ {ps : List Int}, Bits ps → ps ∈ allB ps.length
  | [], _ => by simp [allB]
  | x :: ps, h => by
    have ih := allB_mem (ps := ps) fun m hm => h m (List.mem_cons_of_mem _ hm)
    have hx := h x (List.mem_cons_self ..)
    show x :: ps ∈ (allB ps.length).map (0 :: ·) ++ (allB ps.length).map (1 :: ·)
    rcases hx with rfl | rfl
    · exact List.mem_append.mpr (.inl (List.mem_map.mpr ⟨ps, ih, rfl⟩))
    · exact List.mem_append.mpr (.inr (List.mem_map.mpr ⟨ps, ih, rfl⟩))
def smallB (m : Nat) : Bool := (allB m).all fun ps => (someF ps 0).isPerm (freesF ps 0) && (someF ps 1).isPerm (freesF ps 1)
theorem small0 : smallB 0 = true := by decide +kernel
theorem small1 : smallB 1 = true := by decide +kernel
theorem small2 : smallB 2 = true := by decide +kernel
theorem small3 : smallB 3 = true := by decide +kernel
theorem small4 : smallB 4 = true := by decide +kernel
theorem small5 : smallB 5 = true := by decide +kernel
theorem small6 : smallB 6 = true := by decide +kernel
end K60
set_option maxHeartbeats 4000000
namespace K60
open PySem PySem.Spec PyProof.Rows L2
/-! ### many parities -/
theorem zw_getD {a b : List Int} {i : Nat} (h1 : i < a.length) (h2 : i < b.length) : (List.zipWith xb a b).getD i 0 = xb (a.getD i 0) (b.getD i 0) := by
  rw [List.getD_eq_getElem?_getD, List.getD_eq_getElem?_getD, List.getD_eq_getElem?_getD, List.getElem?_zipWith, List.getElem?_eq_getElem h1, List.getElem?_eq_getElem h2]
  rfl
theorem bit_getD {a : List Int} (h : Bits a) (i : Nat) : a.getD i 0 = 0 ∨ a.getD i 0 = 1 := by
  rw [List.getD_eq_getElem?_getD]
  by_cases hi : i < a.length
  · rw [List.getElem?_eq_getElem hi]
    exact h _ (List.getElem_mem hi)
  · rw [List.getElem?_eq_none (by omega)]
    exact .inl rfl
theorem xb_r {x y : Int} (hx : x = 0 ∨ x = 1) (hy : y = 0 ∨ y = 1) : xb (xb x y) y = x := by
  rcases hx with rfl | rfl <;> rcases hy with rfl | rfl <;> rfl
theorem xb_l {x y : Int} (hx : x = 0 ∨ x = 1) (hy : y = 0 ∨ y = 1) : xb y (xb x y) = x := by
  rcases hx with rfl | rfl <;> rcases hy with rfl | rfl <;> rfl
theorem xb_xx {x y z : Int} (hx : x = 0 ∨ x = 1) (hy : y = 0 ∨ y = 1) (hz : z = 0 ∨ z = 1) : xb (xb x z) (xb y z) = xb x y := by
  rcases hx with rfl | rfl <;> rcases hy with rfl | rfl <;> rcases hz with rfl | rfl <;> rfl
theorem xb_0l {x : Int} (hx : x = 0 ∨ x = 1) : xb 0 x = x := by rcases hx with rfl | rfl <;> rfl
theorem xb_0r {x : Int} (hx : x = 0 ∨ x = 1) : xb x 0 = x := by rcases hx with rfl | rfl <;> rfl
theorem xb_comm (x y : Int) : xb x y = xb y x := by unfold xb; rw [Int.add_comm]
theorem cons_getD (p : List Int) (i : Nat) : ((0 : Int) :: p).getD i 0 = if 0 < i then p.getD (i - 1) 0 else 0 := by
  cases i with
  | zero => rfl
  | succ j => rw [if_pos (Nat.succ_pos _)]; rfl
theorem snoc_getD (p : List Int) (i : Nat) : (p ++ [(0 : Int)]).getD i 0 = if i < p.length then p.getD i 0 else 0 := by
  by_cases h : i < p.length
  · rw [if_pos h, List.getD_eq_getElem?_getD, List.getElem?_append_left h, List.getD_eq_getElem?_getD]
  · rw [if_neg h, List.getD_eq_getElem?_getD, List.getElem?_append_right (by omega)]
    by_cases q : i - p.length = 0
    · rw [q]; rfl
    · rw [List.getElem?_eq_none (by simp; omega)]; rfl
theorem edge_bit {p : List Int} (hp : Bits p) (i : Nat) (c : Prop) [Decidable c] : (if c then p.getD i 0 else 0) = 0 ∨ (if c then p.getD i 0 else 0) = 1 := by
  by_cases h : c
  · rw [if_pos h]; exact bit_getD hp i
  · rw [if_neg h]; exact .inl rfl
theorem free1_at {p m : List Int} (hl : m.length = p.length + 1) {i : Nat} (hi : i < p.length) : (freeC p m 1).getD i 0 = xb (m.getD i 0) (if 0 < i then p.getD (i - 1) 0 else 0) := by
  unfold freeC
  rw [if_pos rfl, List.getD_eq_getElem?_getD, List.getElem?_take_of_lt hi, ← List.getD_eq_getElem?_getD, zw_getD (by omega) (by simp; omega), cons_getD]
theorem free0_at {p m : List Int} (hl : m.length = p.length + 1) {i : Nat} (hi : i < p.length) : (freeC p m 0).getD i 0 = xb (m.getD (i + 1) 0) (if i + 1 < p.length then p.getD (i + 1) 0 else 0) := by
  unfold freeC
  rw [if_neg (by decide), List.getD_eq_getElem?_getD, List.getElem?_drop, Nat.add_comm 1 i, ← List.getD_eq_getElem?_getD, zw_getD (by omega) (by simp; omega), snoc_getD]
theorem mix1_at {p m : List Int} (hp : Bits p) (hm : Bits m) (hl : m.length = p.length + 1) (h1 : 1 ≤ p.length) {i : Nat} (hi : i ≤ p.length) : (mixF p (freeC p m 1) 1)[i]? = some (if i < p.length then m.getD i 0 else p.getD (p.length - 1) 0) := by
  rw [mixF_at (freeC_length hl 1) hi, if_pos rfl, if_pos rfl]
  by_cases h : i < p.length
  · rw [if_pos h, if_pos h, free1_at hl h, xb_r (bit_getD hm i) (edge_bit hp _ _)]
  · rw [if_neg h, if_neg h, if_pos (by omega), show i - 1 = p.length - 1 by omega, xb_0l (bit_getD hp _)]
theorem mix0_at {p m : List Int} (hp : Bits p) (hm : Bits m) (hl : m.length = p.length + 1) (h1 : 1 ≤ p.length) {i : Nat} (hi : i ≤ p.length) : (mixF p (freeC p m 0) 0)[i]? = some (if 0 < i then m.getD i 0 else p.getD 0 0) := by
  rw [mixF_at (freeC_length hl 0) hi, if_neg (show ¬ ((0 : Int) = 1) by decide), if_neg (show ¬ ((0 : Int) = 1) by decide)]
  by_cases h : 0 < i
  · rw [if_pos h, if_pos h, free0_at hl (by omega), show i - 1 + 1 = i by omega, xb_l (bit_getD hm i) (edge_bit hp _ _)]
  · rw [if_neg h, if_neg h, show i = 0 by omega, if_pos (by omega), xb_0r (bit_getD hp _)]
theorem getD_some {a : List Int} {i : Nat} (h : i < a.length) : a[i]? = some (a.getD i 0) := by
  rw [List.getD_eq_getElem?_getD, List.getElem?_eq_getElem h]
  rfl
theorem free1_ok {p m : List Int} (hp : Bits p) (hm : Bits m) (hl : m.length = p.length + 1) (h1 : 1 ≤ p.length) : mixF p (freeC p m 1) 1 = m ↔ m.getD p.length 0 = p.getD (p.length - 1) 0 := by
  constructor
  · intro e
    have := mix1_at hp hm hl h1 (i := p.length) (Nat.le_refl _)
    rw [e, getD_some (by omega), if_neg (by omega)] at this
    exact Option.some.inj this
  · intro e
    apply List.ext_getElem?
    intro i
    by_cases hi : i ≤ p.length
    · rw [mix1_at hp hm hl h1 hi, getD_some (by omega)]
      by_cases h : i < p.length
      · rw [if_pos h]
      · rw [if_neg h, show i = p.length by omega, e]
    · rw [List.getElem?_eq_none (by rw [mixF_length (freeC_length hl 1)]; omega), List.getElem?_eq_none (by omega)]
theorem free0_ok {p m : List Int} (hp : Bits p) (hm : Bits m) (hl : m.length = p.length + 1) (h1 : 1 ≤ p.length) : mixF p (freeC p m 0) 0 = m ↔ m.getD 0 0 = p.getD 0 0 := by
  constructor
  · intro e
    have := mix0_at hp hm hl h1 (i := 0) (Nat.zero_le _)
    rw [e, getD_some (by omega), if_neg (by omega)] at this
    exact Option.some.inj this
  · intro e
    apply List.ext_getElem?
    intro i
    by_cases hi : i ≤ p.length
    · rw [mix0_at hp hm hl h1 hi, getD_some (by omega)]
      by_cases h : 0 < i
      · rw [if_pos h]
      · rw [if_neg h, show i = 0 by omega, e]
    · rw [List.getElem?_eq_none (by rw [mixF_length (freeC_length hl 0)]; omega), List.getElem?_eq_none (by omega)]
theorem xor1 {p m n : List Int} (hp : Bits p) (hm : Bits m) (hn : Bits n) (hl : m.length = p.length + 1) (hl2 : n.length = p.length + 1) : List.zipWith xb (freeC p m 1) (freeC p n 1) = (List.zipWith xb m n).take p.length := by
  apply List.ext_getElem?
  intro i
  by_cases hi : i < p.length
  · rw [getD_some (by rw [List.length_zipWith, freeC_length hl, freeC_length hl2]; omega), zw_getD (by rw [freeC_length hl]; omega) (by rw [freeC_length hl2]; omega), free1_at hl hi, free1_at hl2 hi,
      xb_xx (bit_getD hm i) (bit_getD hn i) (edge_bit hp _ _), List.getElem?_take_of_lt hi, getD_some (by rw [List.length_zipWith]; omega), zw_getD (by omega) (by omega)]
  · rw [List.getElem?_eq_none (by rw [List.length_zipWith, freeC_length hl]; omega), List.getElem?_eq_none (by rw [List.length_take]; omega)]
theorem xor0 {p m n : List Int} (hp : Bits p) (hm : Bits m) (hn : Bits n) (hl : m.length = p.length + 1) (hl2 : n.length = p.length + 1) : List.zipWith xb (freeC p m 0) (freeC p n 0) = (List.zipWith xb m n).drop 1 := by
  apply List.ext_getElem?
  intro i
  by_cases hi : i < p.length
  · rw [getD_some (by rw [List.length_zipWith, freeC_length hl, freeC_length hl2]; omega), zw_getD (by rw [freeC_length hl]; omega) (by rw [freeC_length hl2]; omega), free0_at hl hi, free0_at hl2 hi,
      xb_xx (bit_getD hm _) (bit_getD hn _) (edge_bit hp _ _), List.getElem?_drop, Nat.add_comm 1 i, getD_some (by rw [List.length_zipWith]; omega), zw_getD (by omega) (by omega)]
  · rw [List.getElem?_eq_none (by rw [List.length_zipWith, freeC_length hl]; omega), List.getElem?_eq_none (by rw [List.length_drop, List.length_zipWith]; omega)]
def four (m : Nat) (z a b c : List Int) : Bool :=
  decide (z.getD 0 0 = 0) && decide (a.getD 0 0 = 1) && decide (b.getD 0 0 = 0) && decide (c.getD 0 0 = 1) && decide (z.getD m 0 = 0) && decide (a.getD m 0 = 1) && decide (b.getD m 0 = 1) && decide (c.getD m 0 = 0) &&
  decide ((List.zipWith xb z b).drop 1 = crossF (m - 1)) && decide ((List.zipWith xb a c).drop 1 = crossF (m - 1)) && decide ((List.zipWith xb z c).take m = crossF (m - 1)) && decide ((List.zipWith xb a b).take m = crossF (m - 1)) &&
  isOne z && isOne a && isOne b && isOne c
def bigB (m : Nat) : Bool := match madeF m with
  | [z, a, b, c] => four m z a b c
  | _ => false
theorem big7 : bigB 7 = true := by decide +kernel
theorem big12 : bigB 12 = true := by decide +kernel
theorem big30 : bigB 30 = true := by decide +kernel
theorem big58 : bigB 58 = true := by decide +kernel
theorem big59 : bigB 59 = true := by decide +kernel
theorem srt_two (u v : List Int) : srt [u, v] = [u, v] ∨ srt [u, v] = [v, u] := by
  have h : (srt [u, v]).Perm [u, v] := List.mergeSort_perm _ _
  have hl := h.length_eq
  match e : srt [u, v], hl with
  | [x, y], _ =>
    rw [e] at h
    have hx : x ∈ [u, v] := h.mem_iff.mp (List.mem_cons_self ..)
    rcases List.mem_cons.mp hx with rfl | hx
    · have := (List.perm_cons x).mp h
      rw [List.perm_singleton.mp this]
      exact .inl rfl
    · obtain rfl := List.mem_singleton.mp hx
      have h2 : [x, y].Perm [x, u] := h.trans (List.Perm.swap ..)
      have := (List.perm_cons x).mp h2
      rw [List.perm_singleton.mp this]
      exact .inr rfl
/-- two choices, the crossing apart, both of one hand -/
theorem pair_big {ps m n : List Int} {k : Int} (hs : freesF ps k = [freeC ps m k, freeC ps n k]) (hc : List.zipWith xb (freeC ps m k) (freeC ps n k) = crossF (ps.length - 1)) (h1 : mixF ps (freeC ps m k) k = m) (h2 : mixF ps (freeC ps n k) k = n) (i1 : isOne m = true) (i2 : isOne n = true) :
    ∃ u v, choicesF ps k = [u, v] ∧ List.zipWith xb u v = crossF (ps.length - 1) ∧ isOne (mixF ps u k) = true ∧ isOne (mixF ps v k) = true := by
  have e : choicesF ps k = srt (freesF ps k) := rfl
  rw [e, hs]
  rcases srt_two (freeC ps m k) (freeC ps n k) with q | q
  · exact ⟨_, _, q, hc, by rw [h1]; exact i1, by rw [h2]; exact i2⟩
  · exact ⟨_, _, q, by rw [List.zipWith_comm_of_comm (fun x y => xb_comm x y)]; exact hc, by rw [h2]; exact i2, by rw [h1]; exact i1⟩
theorem big_ok {ps : List Int} {k : Int} (hp : Bits ps) (hk : k = 0 ∨ k = 1) (h1 : 1 ≤ ps.length) (hb : bigB ps.length = true) :
    ∃ u v, choicesF ps k = [u, v] ∧ List.zipWith xb u v = crossF (ps.length - 1) ∧ isOne (mixF ps u k) = true ∧ isOne (mixF ps v k) = true := by
  obtain ⟨mo, _⟩ := madeF_ok ps.length
  unfold bigB at hb
  split at hb
  · rename_i z a b c e
    rw [e] at mo
    have oz := mo z (by simp)
    have oa := mo a (by simp)
    have ob := mo b (by simp)
    have oc := mo c (by simp)
    unfold four at hb
    simp only [Bool.and_eq_true, decide_eq_true_eq] at hb
    obtain ⟨⟨⟨⟨⟨⟨⟨⟨⟨⟨⟨⟨⟨⟨⟨z0, a0⟩, b0⟩, c0⟩, zm⟩, am⟩, bm⟩, cm⟩, zb⟩, ac⟩, zc⟩, ab⟩, iz⟩, ia⟩, ib⟩, ic⟩ := hb
    rcases hk with rfl | rfl
    · have oz0 := free0_ok hp oz.1 oz.2 h1
      have oa0 := free0_ok hp oa.1 oa.2 h1
      have ob0 := free0_ok hp ob.1 ob.2 h1
      have oc0 := free0_ok hp oc.1 oc.2 h1
      rw [z0] at oz0
      rw [a0] at oa0
      rw [b0] at ob0
      rw [c0] at oc0
      rcases bit_getD hp 0 with q | q
      · rw [q] at oz0 oa0 ob0 oc0
        refine pair_big (m := z) (n := b) ?_ (by rw [xor0 hp oz.1 ob.1 oz.2 ob.2]; exact zb) (oz0.mpr rfl) (ob0.mpr rfl) iz ib
        have na : ¬ mixF ps (freeC ps a 0) 0 = a := fun y => absurd (oa0.mp y) (by decide)
        have nc : ¬ mixF ps (freeC ps c 0) 0 = c := fun y => absurd (oc0.mp y) (by decide)
        unfold freesF
        rw [e]
        simp only [List.filterMap_cons, List.filterMap_nil, freeF, if_pos (oz0.mpr rfl), if_pos (ob0.mpr rfl), if_neg na, if_neg nc]
      · rw [q] at oz0 oa0 ob0 oc0
        refine pair_big (m := a) (n := c) ?_ (by rw [xor0 hp oa.1 oc.1 oa.2 oc.2]; exact ac) (oa0.mpr rfl) (oc0.mpr rfl) ia ic
        have na : ¬ mixF ps (freeC ps z 0) 0 = z := fun y => absurd (oz0.mp y) (by decide)
        have nc : ¬ mixF ps (freeC ps b 0) 0 = b := fun y => absurd (ob0.mp y) (by decide)
        unfold freesF
        rw [e]
        simp only [List.filterMap_cons, List.filterMap_nil, freeF, if_pos (oa0.mpr rfl), if_pos (oc0.mpr rfl), if_neg na, if_neg nc]
    · have oz0 := free1_ok hp oz.1 oz.2 h1
      have oa0 := free1_ok hp oa.1 oa.2 h1
      have ob0 := free1_ok hp ob.1 ob.2 h1
      have oc0 := free1_ok hp oc.1 oc.2 h1
      rw [zm] at oz0
      rw [am] at oa0
      rw [bm] at ob0
      rw [cm] at oc0
      rcases bit_getD hp (ps.length - 1) with q | q
      · rw [q] at oz0 oa0 ob0 oc0
        refine pair_big (m := z) (n := c) ?_ (by rw [xor1 hp oz.1 oc.1 oz.2 oc.2]; exact zc) (oz0.mpr rfl) (oc0.mpr rfl) iz ic
        have na : ¬ mixF ps (freeC ps a 1) 1 = a := fun y => absurd (oa0.mp y) (by decide)
        have nc : ¬ mixF ps (freeC ps b 1) 1 = b := fun y => absurd (ob0.mp y) (by decide)
        unfold freesF
        rw [e]
        simp only [List.filterMap_cons, List.filterMap_nil, freeF, if_pos (oz0.mpr rfl), if_pos (oc0.mpr rfl), if_neg na, if_neg nc]
      · rw [q] at oz0 oa0 ob0 oc0
        refine pair_big (m := a) (n := b) ?_ (by rw [xor1 hp oa.1 ob.1 oa.2 ob.2]; exact ab) (oa0.mpr rfl) (ob0.mpr rfl) ia ib
        have na : ¬ mixF ps (freeC ps z 1) 1 = z := fun y => absurd (oz0.mp y) (by decide)
        have nc : ¬ mixF ps (freeC ps c 1) 1 = c := fun y => absurd (oc0.mp y) (by decide)
        unfold freesF
        rw [e]
        simp only [List.filterMap_cons, List.filterMap_nil, freeF, if_pos (oa0.mpr rfl), if_pos (ob0.mpr rfl), if_neg na, if_neg nc]
  · cases hb
theorem small_ok {ps : List Int} {k : Int} (hp : Bits ps) (hk : k = 0 ∨ k = 1) (h : ps.length < 7) : (someF ps k).Perm (freesF ps k) := by
  have hs : smallB ps.length = true := by
    match e : ps.length, h with
    | 0, _ => exact small0
    | 1, _ => exact small1
    | 2, _ => exact small2
    | 3, _ => exact small3
    | 4, _ => exact small4
    | 5, _ => exact small5
    | 6, _ => exact small6
  unfold smallB at hs
  have := List.all_eq_true.mp hs ps (allB_mem hp)
  rw [Bool.and_eq_true] at this
  rcases hk with rfl | rfl
  · exact List.isPerm_iff.mp this.1
  · exact List.isPerm_iff.mp this.2
theorem okP {ps : List Int} {k : Int} (hp : Bits ps) (hk : k = 0 ∨ k = 1) (h : ps.length < 7 ∨ ps.length = 7 ∨ ps.length = 12 ∨ ps.length = 30 ∨ ps.length = 58 ∨ ps.length = 59) : OkP ps k := by
  refine ⟨fun hs => small_ok hp hk hs, fun hb => big_ok hp hk (by omega) ?_⟩
  rcases h with h | h | h | h | h | h
  · exact absurd h hb
  · rw [h]; exact big7
  · rw [h]; exact big12
  · rw [h]; exact big30
  · rw [h]; exact big58
  · rw [h]; exact big59
end K60
set_option maxHeartbeats 4000000
namespace K60
open PySem PySem.Spec PyProof.Rows L2 LamX
abbrev nLaw : List Str := ["_law_script", "_law_lantern_here", "_law_many", "_law_parities", "_law_free", "_law_burns", "_law_due"]
theorem scLaw : FnScope nLaw ["_law_script"] (defScope sLaw) := ⟨rfl, rfl, rfl, by decide +kernel, rfl, by decide +kernel, by decide +kernel⟩
def spLaw (K : PySem.W.Frag) (P : Addr) : Sp := fun vs H Q _ => ∃ (a : Addr) (ns : List Int), vs = [.ref a] ∧ SqL K H a (ns.map V.int) ∧ ns.length ≤ 1000 ∧ Tabs (tabT P) H ∧ ∀ H', Q (.bl true) H'
/-- how many parities -/
def Many (m : Nat) : Prop := m < 7 ∨ m = 7 ∨ m = 12 ∨ m = 30 ∨ m = 58 ∨ m = 59
theorem Many.le {m : Nat} (h : Many m) : m ≤ 59 := by unfold Many at h; omega
section
variable {w : World} {K : PySem.W.Frag} {mg : Str → Option Value} {base : Heap}
theorem x_law {C P : Addr} (B : Bt mg) (FK : CalX w K mg base (L2.CX PR w) 5 "known_parities" sKnown ["parities", "free", "burns"] (spKnown K C))
    (CR : CalG w K mg base (L2.CX PR w) 6 "_law_choices_right" sChRight ["_law_lantern_here", "_law_parities", "_law_burns"] (spChRight K)) (RR : CalX w K mg base (L2.CX PR w) 8 "_law_refused_right" sRefused ["_law_lantern_here"] (spRef P))
    (D0 : HasD K mg "_law_lantern" sLantern) (D1 : HasD K mg "_law_flame_by" sFlame) (D2 : HasD K mg "_law_pick" sPick) (D3 : HasD K mg "_law_bits" sBits) (D4 : HasD K mg "_law_mixed" sMixed) (D : HasD K mg "law" sLaw) :
    CalG w K mg base (L2.CX PR w) 9 "law" sLaw ["_law_script"] (spLaw K P) := by
  refine calg_of D scLaw (fun kV doc pm an cdv ct us h => by match us, h with | [u1], _ => rfl) (fun vs H Q E h => ?_) (fun f cdv A outer s H vs Q E hr hA h => ?_)
  · obtain ⟨a, ns, rfl, _⟩ := h; rfl
  · obtain ⟨a, scr, rfl, ha, la, hT, q⟩ := h
    have hG : (A.deeper (envOfC "law" (defScope sLaw) s.heap.objs.size f cdv)).guards = some [] := hA
    refine ⟨_, pss_cons (ps_set (i := 1) scLaw.nd rfl (.inl rfl) (pe_cx (x_lantern B D0) hr (by decide) passL (pa_cons (pv 0) pa_nil)))
      (pss_cons (ps_for (passes_of rfl) rfl (pi_list (pe_lst (pa_cons (pe_cx (x_flame B D1) hr (by decide) passL (pa_cons (pv 1) (pa_cons pe_int pa_nil))) (pa_cons (pe_cx (x_flame B D1) hr (by decide) passL (pa_cons (pv 1) (pa_cons pe_int pa_nil)))
            (pa_cons (pe_cx (x_pick B D1 D2) hr (by decide) passL (pa_cons (pv 1) (pa_cons (pe_lst (pa_cons pe_int (pa_cons pe_int (pa_cons pe_int (pa_cons pe_int (pa_cons pe_int pa_nil)))))) pa_nil))) pa_nil))))) (pg_name (i := 2) scLaw.nd rfl (.inl rfl))
        (Evl.pss_cut (ps_par3 (i := 3) (j := 4) (l := 5) rfl scLaw.nd rfl rfl rfl (by decide) (by decide) (by decide) rfl rfl rfl (pa_cons (pe_cx (x_bits B D1 D3) hr (by decide) passL (pa_cons (pv 1) (pa_cons (pv 2) pa_nil))) (pa_cons (pe_cx (x_bits B D1 D3) hr (by decide) passL (pa_cons (pv 1) (pa_cons (pv 2) pa_nil)))
            (pa_cons (pe_cx (x_flame B D1) hr (by decide) passL (pa_cons (pv 1) (pa_cons pe_int pa_nil))) pa_nil))) (by rfl))
        (pss_cons (ps_set (i := 6) scLaw.nd rfl (.inl rfl) (pe_cx (x_mixed B D4) hr (by decide) passL (pa_cons (pv 3) (pa_cons (pv 4) (pa_cons (pv 5) pa_nil)))))
        (Evl.pss_cut (ps_if (pt_cmpR op_ne (pe_callB (call_reprD hG) (by rfl) B.repr boot_repr (pa_cons (pe_lst (pa_cons (pe_cx FK hr (by decide) passL (pa_cons (pv 3) (pa_cons (pv 4) (pa_cons (pv 5) pa_nil))))
              (pa_cons (pe_kwx FK kb_known hr (by decide) passL (pk_cons (pv 5) (pk_cons (pe_tupleOf (by rfl) B.tuple (pv 4)) (pk_cons (pe_tupleOf (by rfl) B.tuple (pv 3)) pk_nil)))) pa_nil))) pa_nil))
            (pe_callB (call_reprD hG) (by rfl) B.repr boot_repr (pa_cons (pe_lst (pa_cons (pv 6) (pa_cons (pv 6) pa_nil))) pa_nil)) (nomark _)) (pss_one (ps_ret pe_bl)) pss_nil)
        (pss_one (ps_if (PW.pt (pw_or (pt_not (pt_val (pe_cg CR hG hr (by decide) passL (pa_cons (pv 1) (pa_cons (pv 3) (pa_cons (pv 5) pa_nil)))))) (pw_or1 (pt_not (pt_val (pe_cx RR hr (by decide) passL (pa_cons (pv 1) pa_nil)))))))
            (pss_one (ps_ret pe_bl)) pss_nil))))))
      (pss_one (ps_ret pe_bl))), ?_⟩
    refine ⟨.ref a, rfl, a, scr, rfl, ha, la, fun L c H1 s1 nL nC lan1 => ?_⟩
    obtain ⟨ll1, eL1⟩ := lan1.at
    -- three numbers
    refine ⟨.ref L, rfl, L, c, 0, 4, rfl, lan1, by omega, by omega, by omega, fun r1 H2 r10 r11 s2 lan2 => ?_⟩
    refine ⟨.ref L, rfl, L, c, 1, 7, rfl, lan2, by omega, by omega, by omega, fun r2 H3 r20 r21 s3 lan3 => ?_⟩
    obtain ⟨ll3, eL3⟩ := lan3.at
    refine ⟨.ref L, rfl, line_small (by simp), fun b nb => ?_⟩
    have sb := same_upd (o := HO.lst [.int 7, .int 12, .int 30, .int 58, .int 59]) nb
    have eb : (upd H3 b (.lst [.int 7, .int 12, .int 30, .int 58, .int 59])) b = some (.lst [.int 7, .int 12, .int 30, .int 58, .int 59]) := upd_same
    have bL := neL nb eL3
    generalize upd H3 b (.lst [.int 7, .int 12, .int 30, .int 58, .int 59]) = Hb at sb eb ⊢
    refine ⟨L, c, b, 2, _, rfl, lan3.same sb, by omega, .inl (.inl eb), bL, by simp, by simp, fun v H4 hv s4 lan4 => ?_⟩
    obtain ⟨m3, rfl, hm3⟩ : ∃ m : Nat, v = .int (m : Int) ∧ Many m := by
      rcases List.mem_cons.mp hv with rfl | hv
      · exact ⟨7, rfl, by unfold Many; omega⟩
      rcases List.mem_cons.mp hv with rfl | hv
      · exact ⟨12, rfl, by unfold Many; omega⟩
      rcases List.mem_cons.mp hv with rfl | hv
      · exact ⟨30, rfl, by unfold Many; omega⟩
      rcases List.mem_cons.mp hv with rfl | hv
      · exact ⟨58, rfl, by unfold Many; omega⟩
      · rw [List.mem_singleton.mp hv]
        exact ⟨59, rfl, by unfold Many; omega⟩
    refine ⟨line_small (by simp), fun AA nA => ?_⟩
    obtain ⟨ll4, eL4⟩ := lan4.at
    have sA := same_upd (o := HO.lst [.int r1, .int r2, .int (m3 : Int)]) nA
    have eA : (upd H4 AA (.lst [.int r1, .int r2, .int (m3 : Int)])) AA = some (.lst [.int r1, .int r2, .int (m3 : Int)]) := upd_same
    have AL := neL nA eL4
    generalize upd H4 AA (.lst [.int r1, .int r2, .int (m3 : Int)]) = H5 at sA eA ⊢
    have R15 : LSame L H1 H5 := s2.trans (s3.trans ((LSame.of sb).trans (s4.trans (LSame.of sA))))
    have T5 : Tabs (tabT P) H5 := tabs_lsame (hT.ext s1) eL1 R15
    have lan5 : LanB H5 L c 3 := lan4.same sA
    refine ⟨AA, rfl, ⟨_, .inl (.inl eA)⟩, ?_⟩
    refine for_it (walk_list (xs := [V.int r1, .int r2, .int (m3 : Int)])) (fun i σ Hc => ∃ (y2 y3 y4 y5 y6 : Option V), σ = [some (.ref a), some (.ref L), y2, y3, y4, y5, y6] ∧ LanB Hc L c (3 + i * 200) ∧ Tabs (tabT P) Hc ∧ Hc AA = some (.lst [.int r1, .int r2, .int (m3 : Int)]))
      ⟨none, none, none, none, none, rfl, lan5, T5, eA⟩ (fun i σ Hc _ p => by obtain ⟨_, _, _, _, _, _, _, _, e⟩ := p; exact .inl (.inl e)) (fun i x σ Hc Hc' hi p y => ?_) (fun σ Hc p => ?_)
    · obtain ⟨y2, y3, y4, y5, y6, rfl, lanc, Tc, eAc⟩ := p
      obtain ⟨rfl, yx⟩ := y
      have hi3 : i < 3 := hi
      obtain ⟨m, rfl, hm⟩ : ∃ m : Nat, x = .int (m : Int) ∧ Many m := by
        match i, yx with
        | 0, yx =>
          refine ⟨r1.toNat, ?_, by unfold Many; omega⟩
          rw [Int.toNat_of_nonneg r10]
          exact (Option.some.inj yx).symm
        | 1, yx =>
          refine ⟨r2.toNat, ?_, by unfold Many; omega⟩
          rw [Int.toNat_of_nonneg r20]
          exact (Option.some.inj yx).symm
        | 2, yx => exact ⟨m3, (Option.some.inj yx).symm, hm3⟩
      have hml := hm.le
      -- parities, free, burns
      refine ⟨fun σ H6 => ∃ (p1 p2 : Addr) (ps fs : List Int) (k : Int), σ = [some (.ref a), some (.ref L), some (.int (m : Int)), some (.ref p1), some (.ref p2), some (.int k), y6] ∧ LSame L Hc' H6 ∧ LanB H6 L c (3 + i * 200 + 130) ∧ H6 p1 = some (.lst (ps.map V.int)) ∧ H6 p2 = some (.lst (fs.map V.int)) ∧ Bits ps ∧ Bits fs ∧ ps.length = m ∧ fs.length = m ∧ (k = 0 ∨ k = 1), ?_, fun σ H6 hM => ?_⟩
      · refine ⟨.ref L, rfl, .int (m : Int), rfl, L, c, 3 + i * 200, m, rfl, lanc, by omega, by omega, fun p1 ps Ha sa np1 p1L e1 b1 l1 la1 => ?_⟩
        refine ⟨.ref L, rfl, .int (m : Int), rfl, L, c, 3 + i * 200 + m, m, rfl, la1, by omega, by omega, fun p2 fs Hb2 sb2 np2 p2L e2 b2 l2 la2 => ?_⟩
        refine ⟨.ref L, rfl, L, c, 3 + i * 200 + m + m, 2, rfl, la2, by omega, by omega, by omega, fun k Hd k0 k1 sd la3 => ?_⟩
        exact ⟨_, _, _, rfl, p1, p2, ps, fs, k, rfl, sa.trans (sb2.trans sd), la3.mono (by omega), sd _ _ p1L (sb2 _ _ p1L e1), sd _ _ p2L e2, b1, b2, l1, l2, by omega⟩
      obtain ⟨p1, p2, ps, fs, k, rfl, s6, lan6, e1, e2, b1, b2, l1, l2, hk⟩ := hM
      -- due
      refine ⟨.ref p1, rfl, .ref p2, rfl, .int k, rfl, p1, p2, ps, fs, k, rfl, .inl (.inl (.inl e1)), .inl (.inl (.inl e2)), by omega, by omega, fun d H7 s7 hd => ?_⟩
      have gp : Good K H7 (.ref p1) ps := ⟨p1, rfl, .inl (.inl (.inl (s7 _ _ e1))), b1, by omega⟩
      have gf : Good K H7 (.ref p2) fs := ⟨p2, rfl, .inl (.inl (.inl (s7 _ _ e2))), b2, by omega⟩
      have mb := mixF_bits ps fs k
      have ml : (mixF ps fs k).length = m + 1 := by rw [mixF_length (by omega), l1]
      have hsh := sh_pLT (l := [mixF ps fs k, mixF ps fs k]) (by simp) (fun x hx => by
        have : x = mixF ps fs k := by simpa using hx
        rw [this]
        exact ⟨mb, by omega⟩)
      refine ⟨fun σ H8 => σ = [some (.ref a), some (.ref L), some (.int (m : Int)), some (.ref p1), some (.ref p2), some (.int k), some (.ref d)] ∧ Same H7 H8, ?_, fun σ H8 hM => ?_⟩
      · refine ⟨.ref p1, rfl, .ref p2, rfl, .int k, rfl, .ref p1, .ref p2, .int k, rfl, .inr ⟨ps, gp, .inr ⟨fs, gf, .inr ⟨by omega, .inr ⟨k, rfl, hk, fun q1 Ha sa h1 => ?_⟩⟩⟩⟩⟩
        refine ⟨.int k, rfl, .ref p2, rfl, .inl ⟨p2, _, rfl, .inl (.inl (sa _ _ (s7 _ _ e2))), fun z1 nz1 => ?_⟩⟩
        have sz1 := same_upd (o := HO.tup (fs.map V.int)) nz1
        have ez1 : (upd Ha z1 (.tup (fs.map V.int))) z1 = some (.tup (fs.map V.int)) := upd_same
        generalize upd Ha z1 (.tup (fs.map V.int)) = Hb1 at sz1 ez1 ⊢
        refine ⟨.ref p1, rfl, .inl ⟨p1, _, rfl, .inl (.inl (sz1 _ _ (sa _ _ (s7 _ _ e1)))), fun z2 nz2 => ?_⟩⟩
        have sz2 := same_upd (o := HO.tup (ps.map V.int)) nz2
        have ez2 : (upd Hb1 z2 (.tup (ps.map V.int))) z2 = some (.tup (ps.map V.int)) := upd_same
        generalize upd Hb1 z2 (.tup (ps.map V.int)) = Hc1 at sz2 ez2 ⊢
        refine ⟨.ref z2, .ref z1, .int k, rfl, .inr ⟨ps, ⟨z2, rfl, .inr (SqT.of ez2), b1, by omega⟩, .inr ⟨fs, ⟨z1, rfl, .inr (SqT.of (sz2 _ _ ez1)), b2, by omega⟩, .inr ⟨by omega, .inr ⟨k, rfl, hk, fun q2 Hd1 sd h2 => ?_⟩⟩⟩⟩⟩
        refine ⟨two_line, fun l1' nl1 => ?_⟩
        have sl := same_upd (o := HO.lst [.ref q1, .ref q2]) nl1
        have el : (upd Hd1 l1' (.lst [.ref q1, .ref q2])) l1' = some (.lst [.ref q1, .ref q2]) := upd_same
        generalize upd Hd1 l1' (.lst [.ref q1, .ref q2]) = He at sl el ⊢
        have S : Same Ha He := sz1.trans (sz2.trans (sd.trans sl))
        refine ⟨.ref l1', pLT [mixF ps fs k, mixF ps fs k], rfl, ⟨l1', rfl⟩, dp_pLT (.inl (.inl el)) (.cons ⟨q1, rfl, Same.seqT S h1⟩ (.cons ⟨q2, rfl, Same.seqT sl h2⟩ .nil)), hsh.1, hsh.2.1, Nat.lt_of_le_of_lt (Nat.add_le_add_left (by have := hsh.2.2.1; omega) _) hr.units, hsh.2.2.2, ?_⟩
        refine ⟨.ref d, rfl, .ref d, rfl, two_line, fun l2' nl2 => ?_⟩
        have sl2 := same_upd (o := HO.lst [.ref d, .ref d]) nl2
        have el2 : (upd He l2' (.lst [.ref d, .ref d])) l2' = some (.lst [.ref d, .ref d]) := upd_same
        generalize upd He l2' (.lst [.ref d, .ref d]) = Hf at sl2 el2 ⊢
        have S7 : Same H7 Hf := sa.trans (S.trans sl2)
        refine ⟨.ref l2', pLT [mixF ps fs k, mixF ps fs k], rfl, ⟨l2', rfl⟩, dp_pLT (.inl (.inl el2)) (.cons ⟨d, rfl, Same.seqT S7 hd⟩ (.cons ⟨d, rfl, Same.seqT S7 hd⟩ .nil)), hsh.1, hsh.2.1, Nat.lt_of_le_of_lt (Nat.add_le_add_left (by have := hsh.2.2.1; omega) _) hr.units, hsh.2.2.2, rfl, _, rfl, ?_⟩
        rw [decide_eq_true rfl]
        exact iteF ⟨rfl, S7⟩
      obtain ⟨rfl, s8⟩ := hM
      -- the two checks
      have R8 : LSame L Hc' H8 := s6.trans (LSame.of (s7.trans s8))
      obtain ⟨llc, eLc⟩ := lanc.at
      refine ⟨.ref L, rfl, .ref p1, rfl, .int k, rfl, .ref L, p1, ps, k, rfl, .inl (.inl (s8 _ _ (s7 _ _ e1))), b1, by omega, hk, okP b1 hk (by rw [l1]; exact hm), fun H9 s9 => ⟨_, rfl, iteF ?_⟩⟩
      have R9 : LSame L Hc' H9 := R8.trans (LSame.of s9)
      refine ⟨.ref L, rfl, L, c, 3 + i * 200 + 130, rfl, lan6.same (s7.trans (s8.trans s9)), by omega, tabs_lsame Tc eLc R9, fun H10 e10 lan10 T10 => ⟨_, rfl, iteF ?_⟩⟩
      exact ⟨_, _, _, _, _, rfl, lan10.mono (by omega), T10, e10 _ _ AL (R9 _ _ AL eAc) fun ps z => by cases z⟩
    · exact q Hc
end
end K60
set_option maxHeartbeats 4000000
namespace K60
open PySem PySem.Spec PyProof.Rows L2
/-! ### the head, with what it tells of BadNumber -/
def aC (K : PySem.W.Frag) : Addr := He.ga K "BadNumber"
def aI (K : PySem.W.Frag) : Addr := He.ma K (aC K) "__init__"
def exoB (K : PySem.W.Frag) (C : Addr) : Bool := match K.lookup C with
  | some ⟨.type "type", _, .cls cd, sl⟩ => (match cd.mro, sl.toList with
    | .ref C' :: bm, [_, _, _, _, some (.builtin n), _] => C' == C && n == "ValueError.__new__" && !cd.hasDel && cd.hasDict && PySem.HandSPX.refsVE bm
    | _, _ => false)
  | _ => false
theorem exoB_ok {K : PySem.W.Frag} {C : Addr} (q : exoB K C = true) : ∃ nm qn N bs bm sn sub ab col dd k0 k1 k2 k3 k5, K.lookup C = some (excClassObj nm qn C N bs bm true sn sub ab col dd k0 k1 k2 k3 k5 "ValueError.__new__") ∧ PySem.HandSPX.refsVE bm = true := by
  unfold exoB at q
  split at q
  · rename_i dd cd sl ho
    split at q
    · rename_i C' bm k0 k1 k2 k3 n k5 hm hs
      simp only [Bool.and_eq_true, beq_iff_eq, Bool.not_eq_true'] at q
      obtain ⟨⟨⟨⟨rfl, rfl⟩, hdel⟩, hdi⟩, hr⟩ := q
      obtain ⟨nm, bs, mro, ns, qn, hd, sn, sub, ab, col, del⟩ := cd
      dsimp only at hm hdel hdi
      subst hm hdel hdi
      have hsl : sl = #[k0, k1, k2, k3, some (.builtin "ValueError.__new__"), k5] := by
        obtain ⟨l⟩ := sl
        simp only at hs
        rw [hs]
      subst hsl
      exact ⟨nm, qn, ns, bs, bm, sn, sub, ab, col, dd, k0, k1, k2, k3, k5, ho, hr⟩
    · cases q
  · cases q
def dfB : Value → Bool
  | .none => true
  | _ => false
theorem dfB_ok {v : Value} (h : dfB v = true) : v = .none := by
  cases v with
  | none => rfl
  | _ => cases h
def flB : Option Value → Bool
  | some (.str file _) => ((PR.main.file : Str) == file)
  | _ => false
theorem flB_ok {v : Option Value} (h : flB v = true) : ∃ file t, v = some (.str file t) ∧ ((PR.main.file : Str) == file) = true := by
  cases v with
  | none => cases h
  | some u =>
    cases u with
    | str file t => exact ⟨file, t, rfl, h⟩
    | _ => cases h
def cdB (K : PySem.W.Frag) : Value → Bool
  | .ref cda => PySem.W.codeIn K (.ref cda) "BadNumber.__init__" && (match K.lookup cda with
    | some ⟨_, _, .fields vs, _⟩ => flB vs[2]?
    | _ => false)
  | _ => false
theorem cdB_ok {K : PySem.W.Frag} {v : Value} (h : cdB K v = true) : ∃ cda ccl cdd vs ccs file tf, v = .ref cda ∧ PySem.W.codeIn K (.ref cda) "BadNumber.__init__" = true ∧ K.lookup cda = some ⟨ccl, cdd, .fields vs, ccs⟩ ∧ vs[2]? = some (.str file tf) ∧ ((PR.main.file : Str) == file) = true := by
  cases v with
  | ref cda =>
    obtain ⟨d1, d2⟩ := He.ba h
    cases q2 : K.lookup cda with
    | none => rw [q2] at d2; cases d2
    | some o2 =>
      obtain ⟨ccl, cdd, dt2, ccs⟩ := o2
      rw [q2] at d2
      cases dt2 with
      | fields vs =>
        obtain ⟨file, t, e1, e2⟩ := flB_ok d2
        exact ⟨cda, ccl, cdd, vs, ccs, file, t, rfl, d1, q2, e1, e2⟩
      | _ => cases d2
  | _ => cases h
def clB (K : PySem.W.Frag) (C : Addr) : List (Str × Addr) → Bool
  | [(_, cc)] => (match K.lookup cc with
    | some ⟨_, _, .cell (some (.ref C')), _⟩ => C' == C
    | _ => false)
  | _ => false
theorem clB_ok {K : PySem.W.Frag} {C : Addr} {l : List (Str × Addr)} (h : clB K C l = true) (hn : l.map (·.1) = [("__class__" : Str)]) : ∃ cc cl cld csl, l = [(("__class__" : Str), cc)] ∧ K.lookup cc = some ⟨cl, cld, .cell (some (.ref C)), csl⟩ := by
  match l, hn, h with
  | [(y, cc)], hn, h =>
    have ey : y = "__class__" := by simpa using hn
    subst ey
    have h : (match K.lookup cc with
      | some ⟨_, _, .cell (some (.ref C')), _⟩ => C' == C
      | _ => false) = true := h
    cases q4 : K.lookup cc with
    | none => rw [q4] at h; cases h
    | some o4 =>
      obtain ⟨cl, cld, dt4, csl⟩ := o4
      rw [q4] at h
      cases dt4 with
      | cell v =>
        cases v with
        | none => cases h
        | some u =>
          cases u with
          | ref C' =>
            have ec : C' = C := eq_of_beq h
            subst ec
            exact ⟨cc, cl, cld, csl, rfl, q4⟩
          | _ => cases h
      | _ => cases h
def fnB (K : PySem.W.Frag) (f C : Addr) : Bool := match K.lookup f with
  | some ⟨_, _, .func fd, _⟩ => dfB fd.defaults && (cdB K fd.code && clB K C fd.closure)
  | _ => false
abbrev FnC : Type := Option (Str × Str × Arguments × FuncBody × Scope × Addr × List Str × Addr)
def fnC (K : PySem.W.Frag) (f : Addr) : FnC := match K.lookup f with
  | some ⟨_, _, .func fd, _⟩ => some (fd.name, fd.qualname, fd.params, fd.body, fd.scope, fd.globals, fd.closure.map (·.1), fd.builtins)
  | _ => none
def valC : FnC := some ("__init__", "BadNumber.__init__", defArgs sInit, .stmts (defBody sInit), defScope sInit, mainGlobals, ["__class__"], builtinsNs)
def numB1 (K : PySem.W.Frag) : Bool := exoB K (aC K) && (He.eqO (PySem.W.findIn K (.ref (aC K)) "__setattr__") (some (some (.builtin "object.__setattr__"))) && (He.eqO (PySem.W.findIn K (.ref (aC K)) "__getattribute__") (some (some (.builtin "BaseException.__getattribute__"))) &&
  (He.eqO (PySem.W.findIn K (.ref (aC K)) "__getattr__") (some none) && (He.eqO (PySem.W.findIn K (.ref (aC K)) "part") (some none) && (He.eqO (PySem.W.findIn K (.ref (aC K)) "__init__") (some (some (.ref (aI K)))) && (decide (PySem.W.typeIn K (.ref (aI K)) = some (.type "function")) &&
  (PySem.W.keepIn K (.ref (aC K)) && (decide (PySem.W.subIn K (.ref (aC K)) (.type "BaseException") = some true) && (decide (PySem.W.subIn K (.ref (aC K)) (.type "ValueError") = some true) && (decide (PySem.W.typeIn K (.ref (aC K)) = some (.type "type")) && PySem.W.hasDictIn K (aC K)))))))))))
def numB2 (K : PySem.W.Frag) : Bool := He.eqO (PySem.W.ks_superIn K (aC K) (aC K) "__init__") (some (some (.builtin "ValueError.__init__"))) && (He.eqO (PySem.W.nsIn K cStatics "thirdparty.any") (some none) && (decide (PySem.W.mroIn K (aC K) (.ref (aC K)) = some true) && fnB K (aI K) (aC K)))
def numB3 (K : PySem.W.Frag) : Bool := He.eqO (PySem.W.findIn K (.ref (aC K)) "__class__") (some (some (.builtin "object.__class__"))) && (He.eqO (PySem.W.specialIn K (.builtin "object.__class__") "__get__") (some (some (.builtin "getset_descriptor.__get__"))) &&
  (decide (PySem.W.takesIn K (.builtin "object.__class__") = some true) && (decide (PySem.W.mroIn K (aC K) (.type "object") = some true) && (decide (PySem.W.kitOne K (.ref (aC K)) (.ref (aC K)) = some true) && decide (PySem.W.exmOne K (.ref (aC K)) (.ref (He.ga K "LampError")) = some true)))))
def numB (K : PySem.W.Frag) : Bool := numB1 K && (numB2 K && numB3 K)
theorem numIs_of {K : PySem.W.Frag} (h : numB3 K = true) : NumIs K (aC K) ∧ PySem.W.exmOne K (.ref (aC K)) (.ref (He.ga K "LampError")) = some true := by
  obtain ⟨h1, h⟩ := He.ba h
  obtain ⟨h2, h⟩ := He.ba h
  obtain ⟨h3, h⟩ := He.ba h
  obtain ⟨h4, h⟩ := He.ba h
  obtain ⟨h5, h6⟩ := He.ba h
  exact ⟨⟨He.eqO_ok h1, He.eqO_ok h2, of_decide_eq_true h3, of_decide_eq_true h4, of_decide_eq_true h5⟩, of_decide_eq_true h6⟩
theorem numTxt_of {K : PySem.W.Frag} {mg : Str → Option Value} (h1 : numB1 K = true) (h2 : numB2 K = true) (hf : fnC K (aI K) = valC) (gC : mg "BadNumber" = some (.ref (aC K))) (gS : mg "super" = none) : NumTxt K mg (aC K) (aI K) := by
  obtain ⟨a1, h1⟩ := He.ba h1
  obtain ⟨a2, h1⟩ := He.ba h1
  obtain ⟨a3, h1⟩ := He.ba h1
  obtain ⟨a4, h1⟩ := He.ba h1
  obtain ⟨a5, h1⟩ := He.ba h1
  obtain ⟨a6, h1⟩ := He.ba h1
  obtain ⟨a7, h1⟩ := He.ba h1
  obtain ⟨a8, h1⟩ := He.ba h1
  obtain ⟨a9, h1⟩ := He.ba h1
  obtain ⟨a10, h1⟩ := He.ba h1
  obtain ⟨a11, a12⟩ := He.ba h1
  obtain ⟨b1, h2⟩ := He.ba h2
  obtain ⟨b2, h2⟩ := He.ba h2
  obtain ⟨b3, b4⟩ := He.ba h2
  refine ⟨gC, exoB_ok a1, He.eqO_ok a2, He.eqO_ok a3, He.eqO_ok a4, He.eqO_ok a5, He.eqO_ok a6, of_decide_eq_true a7, a8, of_decide_eq_true a9, of_decide_eq_true a10, of_decide_eq_true a11, a12, He.eqO_ok b1, He.eqO_ok b2, of_decide_eq_true b3, gS, ?_⟩
  unfold fnC at hf
  unfold fnB at b4
  cases q : K.lookup (aI K) with
  | none => rw [q] at hf; cases hf
  | some o =>
    obtain ⟨oc, od, dt, osl⟩ := o
    rw [q] at hf b4
    cases dt with
    | func fd =>
      obtain ⟨n1, n2, n3, n4, n5, n6, n7, n8, n9, n10, n11, n12, n13, n14, n15⟩ := fd
      have e2 : (some (n1, n2, n3, n4, n5, n6, n7.map (·.1), n15) : FnC) = valC := hf
      unfold valC at e2
      simp only [Option.some.injEq, Prod.mk.injEq] at e2
      obtain ⟨g1, g2, g3, g4, g5, g6, g7, g8⟩ := e2
      subst g1 g2 g3 g4 g5 g6 g8
      obtain ⟨c1, b5⟩ := He.ba b4
      obtain ⟨c2, c3⟩ := He.ba b5
      have e8 : n8 = .none := dfB_ok c1
      obtain ⟨cda, ccl, cdd, vs, ccs, file, tf, e13, d1, d2, d3, d4⟩ := cdB_ok c2
      obtain ⟨cc, cl, cld, csl, e7, d5⟩ := clB_ok c3 g7
      have e13 : n13 = .ref cda := e13
      have e7 : n7 = [(("__class__" : Str), cc)] := e7
      subst e8 e13 e7
      exact ⟨oc, od, n9, n10, n11, n12, cda, cc, n14, osl, ccl, cdd, vs, ccs, file, tf, cl, cld, csl, rfl, d1, d2, d3, d4, d5⟩
    | _ => cases hf
/-! ### the Hook -/
def tf : List He.Defn := [("_law_refused_right", none)]
def frZ (g : Addr → Option Obj) : PySem.W.Frag := He.frT g (cStatics :: He.asD g 5)
abbrev AlZ : Type := He.AlD × FnC × Bool
def obsZ (g : Addr → Option Obj) : AlZ := (He.obsD fa fn (frZ g), fnC (frZ g) (aI (frZ g)), numB (frZ g) && He.tabsB g tf (frZ g))
def valZ : AlZ := (He.valD fn, valC, true)
structure SaysZ (h : Heap) (K : PySem.W.Frag) : Prop where
  d : He.SaysD fa fn K
  f : fnC K (aI K) = valC
  n : numB K = true
  hd : PySem.W.codeHdIn K (He.cT K ("_law_refused_right", none)).1 (He.cT K ("_law_refused_right", none)).2 = true
  out : K.lookup (He.cT K ("_law_refused_right", none)).2 = none
  empty : h.get? (He.cT K ("_law_refused_right", none)).2 = some { cls := .none, data := .fields #[] }
theorem saysZ_of {h : Heap} (e : obsZ h.get? = valZ) : SaysZ h (frZ h.get?) := by
  have e1 : He.obsD fa fn (frZ h.get?) = He.valD fn := congrArg (fun z : AlZ => z.1) e
  have e2 : fnC (frZ h.get?) (aI (frZ h.get?)) = valC := congrArg (fun z : AlZ => z.2.1) e
  have e3 : (numB (frZ h.get?) && He.tabsB h.get? tf (frZ h.get?)) = true := congrArg (fun z : AlZ => z.2.2) e
  obtain ⟨h1, h2⟩ := He.ba e3
  obtain ⟨h3, h4⟩ := He.ba (List.all_eq_true.mp h2 _ (List.mem_singleton.mpr rfl))
  cases q : h.get? (He.cT (frZ h.get?) ("_law_refused_right", none)).2 with
  | none => rw [q] at h4; cases h4
  | some o =>
    rw [q] at h4
    exact ⟨e1, e2, h1, h3, He.frT_none q h4, by rw [q, He.emptyTab_eq h4]⟩
def hookZ : PySem.W.Hook where
  α := AlZ
  obs := fun s => obsZ s.heap.get?
  val := fun _ => valZ
  says := fun _ h => ∃ K : PySem.W.Frag, K.In h ∧ SaysZ h K
  of := fun _ _ e => ⟨_, He.frT_in, saysZ_of e⟩
  keeps := fun _ _ _ ⟨K, hK, c⟩ k => ⟨K, PySem.W.Frag.In.keeps hK k, ⟨c.d, c.f, c.n, c.hd, c.out, k _ _ c.empty⟩⟩
def obZ (s : PySem.W.SharedT) : AlZ := obsZ (HandSHeadRun.getT s)
theorem obZ_eq (s : PySem.W.SharedT) : obZ s = hookZ.obs s.abs := by
  have e : HandSHeadRun.getT s = s.abs.heap.get? := funext (HandSHeadRun.getT_eq s)
  show obsZ (HandSHeadRun.getT s) = obsZ s.abs.heap.get?
  rw [e]
end K60
set_option maxHeartbeats 0
namespace K60
open PySem PySem.Spec PyProof.Rows L2
theorem runZ (w : World) : HandSHeadRun.RunEq R (PySem.W.view R.prog [32]) hookZ obZ 3000 loose w := by
  intro os
  kernel_rfl
end K60
set_option maxHeartbeats 4000000
namespace K60
open PySem PySem.Spec PyProof.Rows L2 LamX
/-! ### the law called by the claim: nothing is being shown, one table stands empty -/
section
variable {w : World} {K : PySem.W.Frag} {mg mb : Str → Option Value} {k : Nat} {fa a c P : Addr} {fd : FuncData} {x : Str} {sp : Sp} {s : Shared} {vs : List Value} {ns : List Int}
/-- the script (unless K holds it) and the table are tracked -/
def hLaw (K : PySem.W.Frag) (a P : Addr) (vs : List Value) (ns : List Int) : Hp := fun b => if b = P then some (.tbl #[]) else if b = a ∧ (K.lookup a).isNone = true then some (.frz { cls := .type "list", data := .seq vs.toArray } (.lst (ns.map V.int))) else none
theorem hLaw_cases {b : Addr} {u : HO} (h : hLaw K a P vs ns b = some u) : (b = P ∧ u = .tbl #[]) ∨ (b ≠ P ∧ b = a ∧ K.lookup a = none ∧ u = .frz { cls := .type "list", data := .seq vs.toArray } (.lst (ns.map V.int))) := by
  unfold hLaw at h
  by_cases h1 : b = P
  · rw [if_pos h1] at h
    exact .inl ⟨h1, (Option.some.inj h).symm⟩
  · rw [if_neg h1] at h
    by_cases h2 : b = a ∧ (K.lookup a).isNone = true
    · rw [if_pos h2] at h
      exact .inr ⟨h1, h2.1, Option.isNone_iff_eq_none.mp h2.2, (Option.some.inj h).symm⟩
    · rw [if_neg h2] at h
      cases h
theorem law_runs (kin : K.In s.heap) (glob : s.heap.Ns mainGlobals mg) (blt : s.heap.Ns builtinsNs mb) (boot : ∀ x : Str, x ≠ "__name__" → mb x = bootBuiltins x) (lim : s.heap.NoLimit) (gens : s.gens = #[])
    (tab : s.heap.get? P = some { cls := .none, data := .fields #[] }) (tabK : K.lookup P = none) (code : PySem.W.CodeHd s.heap c P)
    (bmain : ∃ (bm : Addr) (ob : Obj), mg "__builtins__" = some (.ref bm) ∧ bm ≠ builtinsNs ∧ s.heap.get? bm = some ob ∧ ob.cls = .type "module" ∧ ob.dict = some builtinsNs ∧ ob.data = .plain)
    (scr : s.heap.get? a = some { cls := .type "list", data := .seq vs.toArray }) (sInts : IntsAre vs ns) (len : ns.length ≤ sizeLine) (room : Room k callerA)
    (F : ∀ base : Heap, LamX.TabB base mg c P → FnG PR w K mg base (L2.CX PR w) k fa fd [x] sp) (bind : ∀ (s : Shared) (u : Value), BindsTo s fd ⟨[u], []⟩ [(x, u)])
    (prom : ∀ H : Hp, H P = some (.tbl #[]) → SqL K H a (ns.map V.int) → sp [.ref a] H (fun v _ => v = .bl true) fun _ _ _ => False) :
    codeAny (model PR w) callerA (.call (.ref fa) ⟨[.ref a], []⟩) (fun r s' => r = .ok (.ret (.bool true)) ∧ OldK s.heap s'.heap ∧ s'.os = s.os ∧ AllBare s'.gens) s := by
  have vals := vals_ints sInts
  have lv := sInts.length
  have aP : a ≠ P := fun z => by
    rw [z, tab] at scr
    have z' : Data.fields #[] = Data.seq vs.toArray _ := congrArg Obj.data (Option.some.inj scr)
    cases z'
  -- what is no list and no empty table is not tracked
  have un0 : ∀ {b : Addr} {o : Obj}, s.heap.get? b = some o → (∀ l n, o.data ≠ .seq l n) → o.data ≠ .fields #[] → hLaw K a P vs ns b = none := fun {b o} e h1 h2 => by
    cases q : hLaw K a P vs ns b with
    | none => rfl
    | some u =>
      rcases hLaw_cases q with ⟨rfl, _⟩ | ⟨_, rfl, _⟩
      · rw [tab] at e
        cases e
        exact absurd rfl h2
      · rw [scr] at e
        cases e
        exact absurd rfl (h1 _ _)
  have put : ∀ {b : Addr} {o : Obj}, s.heap.get? b = some o → (∀ l n, o.data ≠ .seq l n) → o.data ≠ .fields #[] → (hidT s.heap (hLaw K a P vs ns)).get? b = some o := fun e h1 h2 => hidT_get e (un0 e h1 h2)
  have putNs : ∀ {b : Addr} {m : Str → Option Value}, s.heap.Ns b m → (hidT s.heap (hLaw K a P vs ns)).Ns b m := fun {b m} ⟨o, es, ep, e, d, r⟩ => ⟨o, es, ep, put e (fun l n z => by rw [d] at z; cases z) (fun z => by rw [d] at z; cases z), d, r⟩
  have kinT : K.In (hidT s.heap (hLaw K a P vs ns)) := fun b o e => hidT_get (kin b o e) (by
    cases q : hLaw K a P vs ns b with
    | none => rfl
    | some u =>
      rcases hLaw_cases q with ⟨rfl, _⟩ | ⟨_, rfl, n, _⟩
      · rw [tabK] at e; cases e
      · rw [n] at e; cases e)
  have tb : LamX.TabB (hidT s.heap (hLaw K a P vs ns)) mg c P := by
    refine ⟨?_, ?_, fun z => ?_⟩
    · obtain ⟨o, us, file, tf, flags, tg, inF, text, tt, e1, r1, r2, r3, rest⟩ := code
      refine ⟨o, us, file, tf, flags, tg, inF, text, tt, put e1 (fun l n z => ?_) (fun z => ?_), r1, r2, r3, rest⟩
      · rw [r2] at z
        cases z
      · rw [r2] at z
        cases z
        simp at r3
    · obtain ⟨bm, ob, b1, b2, b3, b4, b5, b6⟩ := bmain
      refine ⟨bm, ob, b1, b2, fun q => ?_, fun q => ?_, put b3 (fun l n z => by rw [b6] at z; cases z) (fun z => by rw [b6] at z; cases z), b4, b5, b6⟩
      · obtain ⟨o, es, ep, e, d, _⟩ := glob
        rw [q, e] at b3
        cases b3
        rw [d] at b6
        cases b6
      · rw [q, tab] at b3
        cases b3
        cases b6
    · obtain ⟨o, es, ep, e, d, _⟩ := glob
      rw [z, tab] at e
      cases e
      cases d
  have ok0 : HOk PR w (hLaw K a P vs ns) s.heap := fun b u e => by
    rcases hLaw_cases e with ⟨rfl, rfl⟩ | ⟨_, rfl, _, rfl⟩
    · exact tab
    · exact ⟨scr, by rw [List.length_map]; exact len, vs, _, vals, scr⟩
  have seq0 : SqL K (hLaw K a P vs ns) a (ns.map V.int) := by
    cases q : K.lookup a with
    | none =>
      refine .inl (.inr ⟨{ cls := .type "list", data := .seq vs.toArray }, ?_⟩)
      unfold hLaw
      rw [if_neg aP, if_pos ⟨rfl, by rw [q]; rfl⟩]
    | some o =>
      have e := kin a o q
      rw [scr] at e
      cases e
      exact .inr ⟨_, vs.toArray, _, q, rfl, rfl, rfl, by rw [List.size_toArray, lv]; exact len, by simpa using vals⟩
  have e0 : Env0 PR w K mg (hidT s.heap (hLaw K a P vs ns)) callerA [] s (hLaw K a P vs ns) :=
    ⟨rfl, ⟨kinT, putNs glob, ⟨mb, putNs blt, boot⟩, let ⟨mc, h1, h2⟩ := lim; ⟨mc, putNs h1, h2⟩⟩, fun b o e => of_hidT e, Nat.le_of_eq (hidT_size _ _), trivial, fun b hb => absurd (show b ∈ ([] : List Addr) from hb) (by simp), ok0, .of_eq gens⟩
  refine codeAny_mono ((F _ tb).run callerA [] s (hLaw K a P vs ns) ⟨[.ref a], []⟩ [.ref a] [.ref a] _ _ room rfl e0 (bind s (.ref a)) (.cons rfl .nil) (prom _ (if_pos rfl) seq0)) fun r s' h => ?_
  cases r with
  | error e =>
    obtain ⟨_, _, _, _, _, _, _, _, _, _, _, _, z⟩ := h
    exact z.elim
  | ok fl =>
    cases fl with
    | next => exact False.elim h
    | brk => exact False.elim h
    | cont => exact False.elim h
    | ret u =>
      obtain ⟨v, H', os, bare, un, ok', rv, q⟩ := h
      have q : v = .bl true := q
      subst q
      obtain rfl : u = Value.bool true := rv
      obtain ⟨more, tab'⟩ := un.tbls P #[] (if_pos rfl)
      have atP : s'.heap.get? P = some { cls := .none, data := .fields (#[] ++ more) } := ok' P _ tab'
      have stay : ∀ b o, b ≠ P → s.heap.get? b = some o → s'.heap.get? b = some o := fun b o nb e => by
        cases q : hLaw K a P vs ns b with
        | none => exact un.keep b o e q (fun z => absurd (show b ∈ ([] : List Addr) from z) (by simp)) (by simp)
        | some u =>
          rcases hLaw_cases q with ⟨z, _⟩ | ⟨_, rfl, _, rfl⟩
          · exact absurd z nb
          · rw [scr] at e
            cases e
            exact (ok' _ _ (un.frzs _ _ _ q)).1
      refine ⟨rfl, ⟨fun b o e => ?_, fun b o e => ?_⟩, os, bare⟩
      · by_cases hb : b = P
        · subst hb
          rw [tab] at e
          cases e
          exact .inr (.inl ⟨(code.tab tab).isCodeTable, rfl, #[], more, rfl, atP⟩)
        · exact .inl (stay b o hb e)
      · by_cases hb : b = P
        · subst hb
          exact ⟨_, atP⟩
        · exact ⟨o, stay b o hb e⟩
end
end K60
set_option maxHeartbeats 0
namespace K60
open PySem PySem.Spec PyProof.Rows L2 LamX
section
variable {w : World} {K : PySem.W.Frag} {mg : Str → Option Value} {h : Heap}
theorem hasD_of (c : He.SaysD fa fn K) (X : K.In h) (G : h.Ns mainGlobals mg) (i j : Nat) {x : Str} {st : Stmt} (hi : fn[i]? = some (mkD x st)) (hj : fa[j]? = some (.glo x)) : HasD K mg x st := by
  obtain ⟨fd, F⟩ := c.def_ i hi
  exact ⟨_, fd, F, He.glo_ok X G (c.fact j hj)⟩
theorem hasC_of (c : He.SaysD fa fn K) (X : K.In h) (G : h.Ns mainGlobals mg) (i j : Nat) {x : Str} {st : Stmt} (hi : fn[i]? = some (mkD x st)) (hj : fa[j]? = some (.glo x)) : HasC K mg x st (He.cT K (x, none)).1 := by
  obtain ⟨fd, F⟩ := c.def_ i hi
  have F0 := F
  obtain ⟨oc, od, dV, kV, doc, pm, an, cdv, ct, osl, rfl, lk, hcd, df, _⟩ := F.ex
  obtain ⟨cc, rfl⟩ := He.codeIn_ref hcd
  refine ⟨_, _, F0, He.glo_ok X G (c.fact j hj), ?_⟩
  show Value.ref cc = Value.ref (He.codeOf K (x, none))
  rw [He.codeOf_eq (p := (x, none)) lk rfl]
theorem bt_of (c : He.SaysD fa fn K) (X : K.In h) (G : h.Ns mainGlobals mg) : Bt mg :=
  ⟨He.free_ok X G (c.fact 29 (f := .free "isinstance")), He.free_ok X G (c.fact 30 (f := .free "int")), He.free_ok X G (c.fact 31 (f := .free "bool")), He.free_ok X G (c.fact 32 (f := .free "list")), He.free_ok X G (c.fact 33 (f := .free "tuple")),
   He.free_ok X G (c.fact 34 (f := .free "len")), He.free_ok X G (c.fact 35 (f := .free "all")), He.free_ok X G (c.fact 36 (f := .free "zip")), He.free_ok X G (c.fact 37 (f := .free "range")), He.free_ok X G (c.fact 38 (f := .free "min")), He.free_ok X G (c.fact 39 (f := .free "sorted")),
   He.free_ok X G (c.fact 40 (f := .free "abs")), He.free_ok X G (c.fact 41 (f := .free "repr")), He.int_ok X G (c.fact 6 (f := .int "MOST_BITS" 59))⟩
/-- the law keeps its promise over any base that bears the table -/
theorem law_calg {base : Heap} (X : K.In h) (G : h.Ns mainGlobals mg) (c : SaysZ h K) (TB : LamX.TabB base mg (He.cT K ("_law_refused_right", none)).1 (He.cT K ("_law_refused_right", none)).2) :
    CalG w K mg base (L2.CX PR w) 9 "law" sLaw ["_law_script"] (spLaw K (He.cT K ("_law_refused_right", none)).2) := by
  have B := bt_of c.d X G
  have gL := He.glo_ok X G (c.d.fact 0 (f := .glo "LampError"))
  have gC := He.glo_ok X G (c.d.fact 1 (f := .glo "BadNumber"))
  obtain ⟨n1, n23⟩ := He.ba c.n
  obtain ⟨n2, n3⟩ := He.ba n23
  obtain ⟨NI, hex⟩ := numIs_of n3
  have NT := numTxt_of n1 n2 c.f gC (He.free_ok X G (c.d.fact 28 (f := .free "super")))
  have d0 : HasD K mg "is_integer" sIsInt := hasD_of c.d X G 0 2 rfl rfl
  have d1 : HasD K mg "is_within" sWithin := hasD_of c.d X G 1 3 rfl rfl
  have d2 : HasD K mg "is_list" sIsList := hasD_of c.d X G 2 4 rfl rfl
  have d3 : HasD K mg "need_number" sNeedNum := hasD_of c.d X G 3 5 rfl rfl
  have d4 : HasD K mg "is_odd_in" sOddIn := hasD_of c.d X G 4 7 rfl rfl
  have d5 : HasD K mg "gate_bits" sGate := hasD_of c.d X G 5 8 rfl rfl
  have d6 : HasD K mg "need_bits" sNeedBits := hasD_of c.d X G 6 9 rfl rfl
  have d7 : HasD K mg "need_burns" sNeedBurns := hasD_of c.d X G 7 10 rfl rfl
  have d8 : HasD K mg "mixed_in" sMixedIn := hasD_of c.d X G 8 11 rfl rfl
  have d9 : HasD K mg "free_in" sFreeIn := hasD_of c.d X G 9 12 rfl rfl
  have d10 : HasD K mg "made_by_one" sMade := hasD_of c.d X G 10 13 rfl rfl
  have d11 : HasD K mg "choices_in" sChoices := hasD_of c.d X G 11 14 rfl rfl
  have d12 : HasD K mg "known_parities" sKnown := hasD_of c.d X G 12 15 rfl rfl
  have d13 : HasD K mg "free_choices" sFreeCh := hasD_of c.d X G 13 16 rfl rfl
  have d14 : HasD K mg "_law_lantern" sLantern := hasD_of c.d X G 14 17 rfl rfl
  have d15 : HasD K mg "_law_flame_by" sFlame := hasD_of c.d X G 15 18 rfl rfl
  have d16 : HasD K mg "_law_pick" sPick := hasD_of c.d X G 16 19 rfl rfl
  have d17 : HasD K mg "_law_is_one" sIsOne := hasD_of c.d X G 17 20 rfl rfl
  have d18 : HasD K mg "_law_heard" sHeard := hasD_of c.d X G 18 21 rfl rfl
  have d19 : HasD K mg "_law_mixed" sMixed := hasD_of c.d X G 19 22 rfl rfl
  have d20 : HasD K mg "_law_bits" sBits := hasD_of c.d X G 20 23 rfl rfl
  have d21 : HasD K mg "_law_crossing" sCrossing := hasD_of c.d X G 21 24 rfl rfl
  have d22 : HasD K mg "_law_choices_right" sChRight := hasD_of c.d X G 22 25 rfl rfl
  have d23 : HasC K mg "_law_refused_right" sRefused (He.cT K ("_law_refused_right", none)).1 := hasC_of c.d X G 23 26 rfl rfl
  have d24 : HasD K mg "law" sLaw := hasD_of c.d X G 24 27 rfl rfl
  have FK : CalX w K mg base (L2.CX PR w) 5 "known_parities" sKnown ["parities", "free", "burns"] (spKnown K (aC K)) := x_known NT B d0 d1 d2 d6 d3 d7 d8 d12
  have FC : CalX w K mg base (L2.CX PR w) 5 "free_choices" sFreeCh ["parities", "burns"] (spFreeCh K (aC K)) := x_freeCh NT B d0 d1 d2 d6 d3 d7 d8 d4 d5 d10 d9 d11 d13
  have CR := x_chRight (w := w) B FC d17 d19 d21 d22
  have RR := x_refused (w := w) B NT NI gL gC hex FK FC d15 d16 d20 d18 TB d23
  exact x_law B FK CR RR d14 d15 d16 d20 d19 d24
theorem FunD.one_fd {x q : Str} {p : Arguments} {b : List Stmt} {sc : Scope} {dv : List V} {kw : List (Str × V)} {f : Addr} {fd fd' : FuncData} (F : FunD K x q p b sc dv kw f fd) (F' : FunD K x q p b sc dv kw f fd') : fd = fd' := by
  obtain ⟨_, _, _, _, _, _, _, _, _, _, _, lk, _⟩ := F.ex
  obtain ⟨_, _, _, _, _, _, _, _, _, _, _, lk', _⟩ := F'.ex
  rw [lk] at lk'
  have e := congrArg Obj.data (Option.some.inj lk')
  exact Data.func.inj e
/-- the claim's call of the law -/
theorem law_ends {mb : Str → Option Value} {fa a : Addr} {s : Shared} {vs : List Value} {ns : List Int} (X : K.In s.heap) (c : SaysZ s.heap K) (G : s.heap.Ns mainGlobals mg) (Bn : s.heap.Ns builtinsNs mb) (boot : ∀ x : Str, x ≠ "__name__" → mb x = bootBuiltins x) (lim : s.heap.NoLimit) (gens : s.gens = #[])
    (bmain : ∃ (bm : Addr) (ob : Obj), mg "__builtins__" = some (.ref bm) ∧ bm ≠ builtinsNs ∧ s.heap.get? bm = some ob ∧ ob.cls = .type "module" ∧ ob.dict = some builtinsNs ∧ ob.data = .plain)
    (hmg : mg "law" = some (.ref fa)) (scr : s.heap.get? a = some { cls := .type "list", data := .seq vs.toArray }) (hi : IntsAre vs ns) (hl : ns.length ≤ 63) :
    codeAny (model PR w) callerA (.call (.ref fa) ⟨[.ref a], []⟩) (fun r s' => r = .ok (.ret (.bool true)) ∧ OldK s.heap s'.heap ∧ s'.os = s.os ∧ AllBare s'.gens) s := by
  obtain ⟨f0, fd0, F0, m0⟩ : HasD K mg "law" sLaw := hasD_of c.d X G 24 27 rfl rfl
  have ef : f0 = fa := by
    rw [m0] at hmg
    cases hmg
    rfl
  subst ef
  refine law_runs (c := (He.cT K ("_law_refused_right", none)).1) (P := (He.cT K ("_law_refused_right", none)).2) (k := 9) (fd := fd0) (x := "_law_script") (sp := spLaw K (He.cT K ("_law_refused_right", none)).2) X G Bn boot lim gens c.empty c.out (PySem.W.codeHd_of_K X c.hd) bmain scr hi
    (Nat.le_trans hl (line_small (by decide))) ⟨rfl, by decide, by decide⟩ (fun base TB => ?_) (fun s u => ?_) fun H hP hS => ?_
  · obtain ⟨f, fd, F, ok, hm, _⟩ := (law_calg (w := w) X G c TB).ex
    have e : f = f0 := by
      rw [m0] at hm
      cases hm
      rfl
    subst e
    have e2 := FunD.one_fd F F0
    subst e2
    exact ok
  · obtain ⟨oc, od, dV, kV, doc, pm, an, cdv, ct, osl, rfl, lk, hcd, df, _⟩ := F0.ex
    rcases df with ⟨_, e⟩ | ⟨n, _⟩
    · subst e
      exact .of_eq (by rfl)
    · exact absurd rfl n
  · refine ⟨a, ns, rfl, hS, by omega, fun p hp => ?_, fun _ => rfl⟩
    rw [List.mem_singleton.mp hp]
    exact TabS.nil hP
end
end K60
set_option maxHeartbeats 0
open PySem PySem.W PySem.Calls PyProof.Rows
theorem PySem.Challenge.cw_keptlamps_k60_whole_parities_beside_a_kn_holds : PySem.Challenge.rw_keptlamps_k60_whole_parities_beside_a_kn.Holds := by
  w_on; o_law
  refine HandSHeadRun.head_any (r := OpenLaw.row PySem.Challenge.rw_keptlamps_k60_whole_parities_beside_a_kn) (q := view (OpenLaw.row PySem.Challenge.rw_keptlamps_k60_whole_parities_beside_a_kn).prog [32]) (H := K60.hookZ) (ob := K60.obZ) (M := 3000) (loose := K60.loose) (d := HandSHeadRun.topDef (OpenLaw.row PySem.Challenge.rw_keptlamps_k60_whole_parities_beside_a_kn).prog 32) (kwd := []) K60.obZ_eq
    (by kernel_rfl) (fun s => by kernel_rfl) K60.runZ (by kernel_rfl) (by kernel_rfl) (by kernel_rfl) (by rfl) (by first | assumption | decide +kernel) (by decide +kernel) ⟨rfl, rfl, rfl, rfl, rfl, by decide +kernel⟩ ?hw ?hc
  case hw => w_witness2
  case hc =>
    refine Att.attach_callB (l := PySem.Challenge.rw_keptlamps_k60_whole_parities_beside_a_kn) (n := 63) rfl (by kernel_rfl) fun w s₀ s₁ mg mb fa o pm cd doc a vs ns G Y ho hd hcd hmg0 hobj hints hlen hbits hg => ?_
    obtain ⟨K, KX, c⟩ := Y
    have hmg : mg ("law" : PySem.Str) = some (.ref fa) := by
      have e : (HandSHeadRun.topDef (OpenLaw.row PySem.Challenge.rw_keptlamps_k60_whole_parities_beside_a_kn).prog 32).name = ("law" : PySem.Str) := by kernel_rfl
      rw [← e]
      exact hmg0
    exact K60.law_ends KX c G.T.g G.T.b G.T.builtins G.T.nolimit hg G.T.bmain hmg hobj hints hlen
