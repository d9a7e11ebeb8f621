import PyProof.Rows.All
import Wide.All
import OpenK.AllK
import Wide.FinOn
import KE.KStateDown
import Lean
import HandS.ForMost
import HandS.More
import HandS.Defaults
import HandS.Property
import HandS.Style
import HandS.FStr
import HandS.IsInst
import HandS.Star
import HandS.SetFor
import HandS.DictComp
import HandS.RaiseMore
import HandS.Head0
import HandS.Head1
import HandS.Head2
import HandS.HeadEnd
import HandS.HeadHook1
import HandS.HeadHook2
import HandS.HeadHook3
import HandS.HeadNt
import PySem.Challenge.RW_byteshape_k06_whole_text_and_back
import KE.KIntText
set_option Elab.async false
set_option linter.all false
set_option maxRecDepth 100000
set_option maxHeartbeats 4000000
namespace K6
open PySem PySem.Spec PyProof.Rows L2
/-! ### the text by places -/
def top (i : Nat) : Stmt := PySem.Challenge.pw_byteshape_k06_whole_text_and_back.main.body.getD i (.Pass ⟨0, 0, 0, 0⟩)

/-! ### rules that lack: a chain of three, lists or tuples walked, a dict of ints of the written part, names of the module -/
section
variable {X : Cx} {a b c d e : Expr} {es : List Expr} {ta tb tc td te : TE} {t : TA} {pos : Pos}
def tChain3 (r r' r'' : R2) (ta tb tc td : TE) : TE := fun σ H Q => ta σ H fun x H1 => tb σ H1 fun y H2 => r x y H2 fun z H3 => ∃ k, z = .bl k ∧
  (if k = true then tc σ H3 fun w' H4 => r' y w' H4 fun z' H5 => ∃ k', z' = .bl k' ∧ (if k' = true then td σ H5 fun u' H6 => r'' w' u' H6 Q else Q (.bl false) H5) else Q (.bl false) H3)
theorem pe_chain3 {op op' op'' : CmpOp} {r r' r'' : R2} (ho : OpR X (compareOp op) r) (ho' : OpR X (compareOp op') r') (ho'' : OpR X (compareOp op'') r'') (ha : PE X a ta) (hb : PE X b tb) (hc : PE X c tc) (hd : PE X d td)
    (hm : lastMarks [op, op', op''] [b, c, d] = false := by with_unfolding_all rfl) : PE X (.Compare a [op, op', op''] [b, c, d] pos) (tChain3 r r' r'' ta tb tc td) := by
  refine ⟨fun pins s σ H Q I h => ?_⟩
  refine Compare_chain (thn (ha.run pins s σ H _ I h) fun v s1 ⟨x, H1, I1, r1, q1⟩ => chain_link (thn (hb.run pins s1 σ H1 _ I1 q1) fun u s2 ⟨y, H2, I2, r2, q2⟩ =>
    thn (ho pins s2 σ H2 x y v u _ I2 r1 r2 q2) fun d s3 ⟨z, H3, I3, r3, k, e, q3⟩ => ?_)) hm
  subst e
  cases r3
  refine wpAny_truthy_bool ?_
  cases k with
  | false => exact ite_ff ⟨.bl false, H3, I3, rfl, q3⟩
  | true =>
    refine ite_tt (chain_link (thn (hc.run pins s3 σ H3 _ I3 q3) fun w' s4 ⟨z', H4, I4, r4, q4⟩ => thn (ho' pins s4 σ H4 y z' u w' _ I4 r2 r4 q4) fun d s5 ⟨z5, H5, I5, r5, k, e, q5⟩ => ?_))
    subst e
    cases r5
    refine wpAny_truthy_bool ?_
    cases k with
    | false => exact ite_ff ⟨.bl false, H5, I5, rfl, q5⟩
    | true => exact ite_tt (chain_last (thn (hd.run pins s5 σ H5 _ I5 q5) fun u' s6 ⟨z6, H6, I6, r6, q6⟩ => ho'' pins s6 σ H6 z' z6 w' u' Q I6 r4 r6 q6))
/-- a list or a tuple, walked -/
def iSeq (K : PySem.W.Frag) (tl : TE) : TI := fun σ H R => tl σ H fun x H1 => ∃ a, x = .ref a ∧ (((∃ xs, SqL K H1 a xs) ∧ R (Itl K a) H1) ∨ ((∃ xs, SqT K H1 a xs) ∧ R (Itt K a) H1))
theorem pi_seq {tg l : Expr} {tl : TE} (hl : PE X l tl) : PI X tg l (iSeq X.K tl) := by
  refine ⟨fun pins s σ H R I h => ?_⟩
  refine thn (hl.run pins s σ H _ I h) fun v s1 ⟨x, H1, I1, r1, q1⟩ => ?_
  obtain ⟨a, e, q1⟩ := q1
  subst e
  cases r1
  rcases q1 with ⟨⟨xs, hq⟩, q⟩ | ⟨⟨xs, hq⟩, q⟩
  · obtain ⟨its, rv, p, hz⟩ := I1.list hq
    refine wpAny_pyIter_list p.isList ?_
    refine ⟨s1.heap.objs.size, [s1.heap.objs.size], _, _, H1, rfl, I1.kept (t' := s1.toks) fun b o e => Heap.get?_push_of_some _ e, turn_list a _, ⟨_, Heap.get?_push_size _ rfl, rfl, rfl⟩, fun b hb => ?_, q⟩
    have e : b = s1.heap.objs.size := by simpa using hb
    subst e
    exact I1.fpOk (Nat.le_refl _) (I1.hok.fresh (Nat.le_refl _))
  · obtain ⟨its, rv, p, hz⟩ := I1.tuple hq
    refine wpAny_pyIter_tuple (show s1.heap.IsTuple a its.toArray from p) ?_
    refine ⟨s1.heap.objs.size, [s1.heap.objs.size], _, _, H1, rfl, I1.kept (t' := s1.toks) fun b o e => Heap.get?_push_of_some _ e, turn_tuple a _, ⟨_, Heap.get?_push_size _ rfl, rfl, rfl⟩, fun b hb => ?_, q⟩
    have e : b = s1.heap.objs.size := by simpa using hb
    subst e
    exact I1.fpOk (Nat.le_refl _) (I1.hok.fresh (Nat.le_refl _))
/-! ### the module's names -/
theorem pe_gint {x : Str} {i : Int} (h : ∃ t, X.mg x = some (.int i t)) (hg : Gl X x := by rfl) (hd : (x == ("__debug__" : Str)) = false := by decide) : PE X (.Name x pos) (tC (.int i)) := by
  obtain ⟨t, h⟩ := h
  exact pe_glob hg h ⟨t, rfl⟩ hd
theorem pe_gstr {x z : Str} (h : ∃ t, X.mg x = some (.str z t)) (hg : Gl X x := by rfl) (hd : (x == ("__debug__" : Str)) = false := by decide) : PE X (.Name x pos) (tC (.str z)) := by
  obtain ⟨t, h⟩ := h
  exact pe_glob hg h ⟨t, rfl⟩ hd
theorem pe_gref {x : Str} {a : Addr} (h : X.mg x = some (.ref a)) (hg : Gl X x := by rfl) (hd : (x == ("__debug__" : Str)) = false := by decide) : PE X (.Name x pos) (tC (.ref a)) := pe_glob hg h rfl hd
/-! ### a written dict, ints by ints -/
def KInt (K : PySem.W.Frag) (a : Addr) (kvs : List (Int × Int)) : Prop := ∃ es n, K.lookup a = some ⟨.type "dict", none, .dict es n, #[]⟩ ∧ (a == sysModules) = false ∧
  Paired (fun (e : DictEntry) (q : Int × Int) => ∃ t u, e.key = .int q.1 t ∧ e.hash = hashInt q.1 ∧ e.val = .int q.2 u) es.toList kvs
theorem KInt.find {l : List DictEntry} {kvs : List (Int × Int)} (h : Paired (fun (e : DictEntry) (q : Int × Int) => ∃ t u, e.key = .int q.1 t ∧ e.hash = hashInt q.1 ∧ e.val = .int q.2 u) l kvs) (k : Int) :
    match kvs.lookup k with
    | some j => ∃ u, (l.find? fun e => Value.isInt k e.key).map (·.val) = some (.int j u)
    | none => (l.find? fun e => Value.isInt k e.key).map (·.val) = none := by
  induction h with
  | nil => rfl
  | @cons e q l kvs h r ih =>
    obtain ⟨t, u, h1, h2, h3⟩ := h
    obtain ⟨i, j⟩ := q
    have ek : Value.isInt k e.key = decide (i = k) := by
      rw [h1]
      simp only [Value.isInt]
      rfl
    rw [List.lookup_cons, List.find?_cons, ek]
    by_cases hik : i = k
    · subst hik
      simp only [beq_self_eq_true, decide_true]
      exact ⟨u, by rw [Option.map_some, h3]⟩
    · have hb : (k == i) = false := by simpa using fun z => hik z.symm
      rw [hb, decide_eq_false hik]
      exact ih
theorem KInt.mem {l : List DictEntry} {kvs : List (Int × Int)} (h : Paired (fun (e : DictEntry) (q : Int × Int) => ∃ t u, e.key = .int q.1 t ∧ e.hash = hashInt q.1 ∧ e.val = .int q.2 u) l kvs) :
    ∀ e ∈ l, ∃ i t, e.key = .int i t ∧ e.hash = hashInt i := by
  induction h with
  | nil => intro e he; cases he
  | cons h r ih =>
    intro e he
    obtain ⟨t, u, h1, h2, h3⟩ := h
    rcases List.mem_cons.mp he with rfl | he
    · exact ⟨_, t, h1, h2⟩
    · exact ih e he
theorem KInt.map {a : Addr} {kvs : List (Int × Int)} (D : KInt X.K a kvs) {pins : List (Addr × Obj)} {σ : L2.St} {H : Hp} {s : Shared} (I : Inv X pins σ H s) :
    ∃ f, s.heap.MapOf (intKind X.prog X.w) a f ∧ (a == sysModules) = false ∧ ∀ k : Int, match kvs.lookup k with
      | some j => ∃ u, f k = some (.int j u)
      | none => f k = none := by
  obtain ⟨es, n, hl, low, hp⟩ := D
  refine ⟨fun k => findBy (intKind X.prog X.w).is es k, ⟨_, es, n, I.kIn _ _ hl, ⟨rfl, rfl, rfl⟩, rfl, fun e he => ?_, fun _ => rfl⟩, low, fun k => ?_⟩
  · obtain ⟨i, t, h1, h2⟩ := KInt.mem hp e (Array.mem_toList_iff.mpr he)
    exact ⟨i, by rw [h1]; exact intKind_is X.prog X.w i t, h2⟩
  · have q := KInt.find hp k
    have e : findBy (intKind X.prog X.w).is es k = (es.toList.find? fun e => Value.isInt k e.key).map (·.val) := by
      obtain ⟨l⟩ := es
      unfold findBy
      rw [List.find?_toArray]
      rfl
    rw [← e] at q
    exact q
def rInKI (K : PySem.W.Frag) : R2 := fun x y H Q => ∃ a kvs i, x = .int i ∧ y = .ref a ∧ KInt K a kvs ∧ Q (.bl (kvs.lookup i).isSome) H
theorem op_inKI : OpR X (compareOp .In) (rInKI X.K) := by
  intro pins s σ H x y v u Q I rx ry h
  obtain ⟨a, kvs, i, rfl, rfl, D, q⟩ := h
  obtain ⟨t, rfl⟩ := rx
  cases ry
  obtain ⟨f, hm, low, hf⟩ := D.map I
  refine wpAny_in_of (intKind_is X.prog X.w i t) low hm ?_
  have e : (f i).isSome = (kvs.lookup i).isSome := by
    have z := hf i
    cases l : kvs.lookup i with
    | some j => rw [l] at z; obtain ⟨u, z⟩ := z; rw [z]; rfl
    | none => rw [l] at z; rw [z]; rfl
  rw [e]
  exact ⟨.bl (kvs.lookup i).isSome, H, I.tok _, rfl, q⟩
def rIxKI (K : PySem.W.Frag) : R2 := fun x y H Q => ∃ a kvs i j, x = .ref a ∧ y = .int i ∧ KInt K a kvs ∧ kvs.lookup i = some j ∧ Q (.int j) H
theorem ix_KI : IxR X (rIxKI X.K) := by
  intro value slice pins s σ H x y v u Q I rx ry h hs
  obtain ⟨a, kvs, i, j, rfl, rfl, D, l, q⟩ := h
  obtain rfl : v = Value.ref a := rx
  obtain ⟨t, rfl⟩ := ry
  obtain ⟨f, hm, low, hf⟩ := D.map I
  have z := hf i
  rw [l] at z
  obtain ⟨u, z⟩ := z
  exact tail_any hm.typeIs slot_dict_getitem.lookup (wpAny_getItem_of (intKind_is X.prog X.w i t) hm z ⟨.int j, H, I.tok _, ⟨u, rfl⟩, q⟩) hs
/-- str(x), an int or a text -/
theorem call_strIS : CallR X (.type "str") (fun xs H Q => (∃ i, xs = [.int i] ∧ i.natAbs.log2 < 1920 ∧ Q (.str (toString i)) H) ∨ ∃ a, xs = [.str a] ∧ Q (.str a) H) := CallR.or call_str_int SkE.call_str_str
end

/-! ### a def, a method by its promise -/
section
variable {P : Program} {w : World} {K : PySem.W.Frag} {mg : Str → Option Value} {base : Heap}
/-- the def of the module's name x keeps sp, by k calls one in another -/
def Fc (P : Program) (w : World) (K : PySem.W.Frag) (mg : Str → Option Value) (base : Heap) (k : Nat) (x : Str) (sp : Sp) : Prop :=
  ∃ f, mg x = some (.ref f) ∧ PySem.W.keepIn K (.ref f) = true ∧ FnR P w K mg base CX0 k f sp
/-- a method of the class at C -/
def Mc (P : Program) (w : World) (K : PySem.W.Frag) (mg : Str → Option Value) (base : Heap) (k : Nat) (C : Addr) (m : Str) (sp : Sp) : Prop :=
  ∃ f, Meth K C m f ∧ FnR P w K mg base CX0 k f sp
theorem Fc.mono {j k : Nat} {x : Str} {sp : Sp} (F : Fc P w K mg base j x sp) (h : j ≤ k) : Fc P w K mg base k x sp := by
  obtain ⟨f, h1, h2, h3⟩ := F
  exact ⟨f, h1, h2, h3.mono h⟩
theorem Mc.mono {j k : Nat} {C : Addr} {m : Str} {sp : Sp} (F : Mc P w K mg base j C m sp) (h : j ≤ k) : Mc P w K mg base k C m sp := by
  obtain ⟨f, h1, h3⟩ := F
  exact ⟨f, h1, h3.mono h⟩
/-- a promise by values -/
theorem raw_of {x qual : Str} {st : Stmt} {f : Addr} {fd : FuncData} {N ps : List Str} {k : Nat} {sp : Sp} (F : Fun K x qual st f fd) (S : FnScope N ps (defScope st))
    (hb : ∀ (kV doc pm : Value) (an : Option Addr) (cdv ct : Value) (us : List Value), us.length = ps.length → bindArgs (PySem.W.fnOf x qual (defArgs st) (defBody st) (defScope st) .none kV doc pm an cdv ct) ⟨us, []⟩ = pure (ps.zip us))
    (len : ∀ vs H Q E, sp vs H Q E → vs.length = ps.length)
    (hbody : ∀ (cdv : Value) (A : Around) (outer : List Env) (s : Shared) (H : Hp) (vs : List V) (Q : VK) (E : XK), Room k (A.deeper (envOfC qual (defScope st) s.heap.objs.size f cdv)) → sp vs H Q E →
      ∃ t, PSs (cxOf CX0 P w K mg base N qual (defScope st) f cdv A outer s H E).nox (defBody st) t ∧ t { nx := fun _ H' => Q .non H', rt := Q } (start N vs) H) : FnR P w K mg base CX0 (k + 1) f sp := by
  have F1 : FnOk P w K mg base CX0 (k + 1) f fd ps sp := F.ok S len hbody
  exact (F1.raw (F.binds hb) .nil).imp fun vs H Q E h => by
    rw [List.append_nil]
    exact h
end
section
variable {X : Cx} {k : Nat} {C : Addr} {x m : Str} {sp : Sp} {e o : Expr} {es : List Expr} {ta : TE} {t : TA} {p apos pos : Pos}
def tCl (sp : Sp) (t : TA) : TE := fun σ H Q => t σ H fun vs H1 => sp vs H1 Q E0
theorem pe_cl (F : Fc X.prog X.w X.K X.mg X.base k x sp) (hr : Room k X.A) (ha : PA X (e :: es) t) (hg : Gl X x := by rfl) (hdb : (x == ("__debug__" : Str)) = false := by decide)
    (he : starEach (e :: es) X.env = (false, eval e X.env) :: starEach es X.env := by rfl) (hpl : (backTo pos (starEach es X.env)).any (·.1) = false := by rfl) : PE X (.Call (.Name x p) (e :: es) [] pos) (tCl sp t) := by
  obtain ⟨f, hm, hk, F⟩ := F
  refine ⟨fun pins s σ H Q I h => ?_⟩
  refine wpAny_Call_Name_kw (ld_glob I hg hm ?_ hdb)
  refine PySem.W.callWith_K (h₀ := X.base) I.ok.mod.kin hk (thn (ha.run pos pins s σ H _ I h) fun us s1 ⟨vs, H1, I1, r, q⟩ => ⟨I1.kIn, ?_⟩) he hpl
  exact wpAny_call (run_fnR F hr pass0 I1 r q)
def tMt (C : Addr) (m : Str) (sp : Sp) (ta : TE) (t : TA) : TE := fun σ H Q => ta σ H fun x H1 => ∃ a dx fs, x = .ref a ∧ H1 a = some (.ins C dx fs) ∧ fs.lookup m = none ∧ t σ H1 fun vs H2 => sp (x :: vs) H2 Q E0
theorem pe_mt {pl : Sem Bool} (he : PE X o ta) (c : Cls X.K C) (F : Mc X.prog X.w X.K X.mg X.base k C m sp) (hr : Room k X.A) (ha : PA X (e :: es) t)
    (hst : starEach (e :: es) X.env = (false, eval e X.env) :: starEach es X.env := by rfl) (hpl : (backTo pos (starEach es X.env)).any (·.1) = false := by rfl)
    (ht : eval (.Call (.Attribute o m apos) (e :: es) [] pos) X.env = (do
      let ov ← eval o X.env
      standAt apos.atName
      let (f, first) ← holding [ov] (getMethod ov m pl)
      callWith pos f first (backTo pos (starEach (e :: es) X.env)) (backToKw pos (keywordEach [] X.env))) := by rfl) :
    PE X (.Call (.Attribute o m apos) (e :: es) [] pos) (tMt C m sp ta t) := by
  obtain ⟨f, hm, F⟩ := F
  exact pe_methR he c hm F hr pass0 ha hst hpl ht
/-- o.m() -/
theorem pe_mt0 {pl : Sem Bool} (he : PE X o ta) (c : Cls X.K C) (F : Mc X.prog X.w X.K X.mg X.base k C m sp) (hr : Room k X.A)
    (ht : eval (.Call (.Attribute o m apos) [] [] pos) X.env = (do
      let ov ← eval o X.env
      standAt apos.atName
      let (f, first) ← holding [ov] (getMethod ov m pl)
      callWith pos f first (backTo pos (starEach [] X.env)) (backToKw pos (keywordEach [] X.env))) := by rfl) :
    PE X (.Call (.Attribute o m apos) [] [] pos) (tMt C m sp ta tNil) := by
  obtain ⟨f, hm, F⟩ := F
  refine ⟨fun pins s σ H Q I h => ?_⟩
  refine PySem.W.methodCall_KW (pl := pl) (thn (he.run pins s σ H _ I h) fun u s1 ⟨x, H1, I1, rx, a, dx, fs, ex, ea, l, q⟩ => ?_) ht
  subst ex
  obtain rfl : u = Value.ref a := rx
  refine getmeth_ok I1 ea c hm l ?_
  exact PySem.W.callWith_K0 (first := [.ref a]) I1.kIn hm.kp (wpAny_call (run_fnR (us := [.ref a]) (vs := [.ref a]) F hr pass0 I1 (.cons rfl .nil) q))
end

/-! ### heaps: what stands (F: what never changes any more), what a call may change -/
/-- from F, H to F', H': F only grows; H' bears F'; what stood in H stands, but at M; F' takes up new objects alone -/
structure Eff (M : List Addr) (F H F' H' : Hp) : Prop where
  same : Same F F'
  sub : Same F' H'
  keep : ∀ b o, H b = some o → b ∉ M → H' b = some o
  there : ∀ b, H b ≠ none → H' b ≠ none
  fresh : ∀ b, F b = none → H b ≠ none → F' b = none
section
variable {M M' : List Addr} {F H F' H' F1 H1 : Hp} {b m p : Addr} {o u : HO}
theorem none_of_same (s : Same F H) (h : H p = none) : F p = none := s.free h
theorem Eff.refl (s : Same F H) : Eff M F H F H := ⟨fun _ _ h => h, s, fun _ _ h _ => h, fun _ h => h, fun _ h _ => h⟩
theorem same_new (h : H p = none) (o : HO) : Same H (upd H p o) := fun b u q => by rw [upd_ne (ne_of_none q h)]; exact q
theorem same_upd2 (s : Same F H) : Same (upd F p o) (upd H p o) := fun b u q => by
  by_cases e : b = p
  · subst e; rw [upd_same] at q; rw [upd_same, q]
  · rw [upd_ne e] at q; rw [upd_ne e]; exact s _ _ q
/-- a new object that stays as it is -/
theorem Eff.put (e : Eff M F H F' H') (h : H' p = none) : Eff M F H (upd F' p o) (upd H' p o) where
  same := e.same.trans (same_new (e.sub.free h) o)
  sub := same_upd2 e.sub
  keep := fun b u q hb => by
    have z := e.keep b u q hb
    rw [upd_ne (ne_of_none z h)]
    exact z
  there := fun b q => by
    by_cases eb : b = p
    · subst eb; rw [upd_same]; intro z; cases z
    · rw [upd_ne eb]; exact e.there b q
  fresh := fun b q z => by
    have z1 := e.there b z
    by_cases eb : b = p
    · subst eb; exact absurd h z1
    · rw [upd_ne eb]; exact e.fresh b q z
/-- a new object that will change -/
theorem Eff.loc (e : Eff M F H F' H') (h : H' p = none) : Eff M F H F' (upd H' p o) where
  same := e.same
  sub := fun b u q => by
    have z := e.sub b u q
    rw [upd_ne (ne_of_none z h)]
    exact z
  keep := fun b u q hb => by
    have z := e.keep b u q hb
    rw [upd_ne (ne_of_none z h)]
    exact z
  there := fun b q => by
    by_cases eb : b = p
    · subst eb; rw [upd_same]; intro z; cases z
    · rw [upd_ne eb]; exact e.there b q
  fresh := e.fresh
/-- an object changes that may change -/
theorem Eff.wr (e : Eff M F H F' H') (hF : F' m = none) (hm : m ∈ M ∨ H m = none) : Eff M F H F' (upd H' m o) where
  same := e.same
  sub := fun b u q => by
    by_cases eb : b = m
    · subst eb; rw [hF] at q; cases q
    · rw [upd_ne eb]; exact e.sub b u q
  keep := fun b u q hb => by
    by_cases eb : b = m
    · subst eb
      rcases hm with z | z
      · exact absurd z hb
      · rw [z] at q; cases q
    · rw [upd_ne eb]; exact e.keep b u q hb
  there := fun b q => by
    by_cases eb : b = m
    · subst eb; rw [upd_same]; intro z; cases z
    · rw [upd_ne eb]; exact e.there b q
  fresh := e.fresh
/-- a new object is done -/
theorem Eff.frz (e : Eff M F H F' H') (hH : H m = none) (hm : H' m = some o) : Eff M F H (upd F' m o) H' where
  same := fun b u q => by
    by_cases eb : b = m
    · subst eb
      have z := e.sub b u (e.same b u q)
      rw [hm] at z
      rw [upd_same, z]
    · rw [upd_ne eb]; exact e.same b u q
  sub := fun b u q => by
    by_cases eb : b = m
    · subst eb; rw [upd_same] at q; rw [hm, q]
    · rw [upd_ne eb] at q; exact e.sub b u q
  keep := e.keep
  there := e.there
  fresh := fun b q z => by
    by_cases eb : b = m
    · subst eb; exact absurd hH z
    · rw [upd_ne eb]; exact e.fresh b q z
/-- a call -/
theorem Eff.call (e : Eff M F H F1 H1) (c : Eff M' F1 H1 F' H') (hM : ∀ m ∈ M', m ∈ M ∨ H m = none) : Eff M F H F' H' where
  same := e.same.trans c.same
  sub := c.sub
  keep := fun b u q hb => c.keep b u (e.keep b u q hb) fun z => (hM b z).elim hb fun y => by rw [y] at q; cases q
  there := fun b q => c.there b (e.there b q)
  fresh := fun b q z => c.fresh b (e.fresh b q z) (e.there b z)
theorem Eff.pure (e : Eff M F H F1 H1) (c : Eff [] F1 H1 F' H') : Eff M F H F' H' := e.call c fun _ h => by cases h
/-- nothing that stood has changed -/
theorem Eff.all (e : Eff [] F H F' H') : Same H H' := fun b o h => e.keep b o h (by simp)
theorem Same.there (c : Same H H') (h : H b ≠ none) : H' b ≠ none := by
  cases e : H b with
  | none => exact absurd e h
  | some o =>
    rw [c b o e]
    intro z
    cases z
theorem Eff.of_same (s : Same F H) (c : Same H H') : Eff M F H F H' := ⟨fun _ _ h => h, s.trans c, fun b o h _ => c b o h, fun b h => Same.there c h, fun _ h _ => h⟩
theorem Eff.full (c : Same H H') : Eff M H H H' H' := ⟨c, fun _ _ h => h, fun b o h _ => c b o h, fun b h => Same.there c h, fun b h z => absurd h z⟩
end
theorem sqL_same {K : PySem.W.Frag} {H H' : Hp} {a : Addr} {xs : List V} (e : Same H H') (h : SqL K H a xs) : SqL K H' a xs := e.seq h
theorem sqT_same {K : PySem.W.Frag} {H H' : Hp} {a : Addr} {xs : List V} (e : Same H H') (h : SqT K H a xs) : SqT K H' a xs := by
  rcases h with (h | ⟨o, h⟩) | h
  · exact .inl (.inl (e _ _ h))
  · exact .inl (.inr ⟨o, e _ _ h⟩)
  · exact .inr h
theorem small {n : Nat} (h : n ≤ 1000) : n ≤ sizeLine := Nat.le_of_lt (small1000 h)

/-! ### comprehensions without a test; whose element changes nothing -/
/-- the loop of a comprehension over J, Q wanted of the new list -/
def LcK (J : It) (g : TG) (te : TE) (vs : List Nat) (σ : L2.St) (H1 : Hp) (Q : VK) : Prop := tLc (fun _ H R => R J H) g tYes te vs σ H1 Q
def tLcS (wi : TI) (g : TG) (te : TE) (vs : List Nat) : TE := fun σ H Q => wi σ H fun J H1 => LcK J g te vs σ H1 Q
theorem pe_lcs {X : Cx} {e : Expr} {wi : TI} {g : TG} {te : TE} {vs : List Nat} (h : PE X e (tLc wi g tYes te vs)) : PE X e (tLcS wi g te vs) := h
theorem ps_setLcs {X : Cx} {st : Stmt} {i : Nat} {wi : TI} {g : TG} {te : TE} {vs : List Nat} (h : PS X st (tAsg (tLc wi g tYes te vs) (gName i))) : PS X st (tAsg (tLcS wi g te vs) (gName i)) := h
section
variable {K : PySem.W.Frag} {F H : Hp} {a : Addr} {xs : List V} {g : TG} {te : TE} {vs : List Nat} {σ : L2.St} {Q : VK}
theorem lcp_core {J : It} (hst : ∀ i H', Same H H' → xs.length ≤ i → J.stop i H') (hgo : ∀ i H', Same H H' → i < xs.length → J.go i H') (hy : ∀ i x H' H'', Same H H' → J.yld i H' x H'' → H'' = H' ∧ xs[i]? = some x)
    (hz : xs.length ≤ 16000000) (sFH : Same F H) (R : Nat → V → Hp → Prop) (mono : ∀ i y F F', Same F F' → R i y F → R i y F')
    (hs : ∀ (i : Nat) x F' H', xs[i]? = some x → Eff [] F H F' H' → ∀ k : VK, (∀ y F'' H'', Eff [] F' H' F'' H'' → R i y F'' → k y H'') → g x (wipe σ vs) H' fun σ2 H2 => wipe σ2 vs = wipe σ vs ∧ te σ2 H2 k)
    (hd : ∀ D ys F' H', H D = none → Eff [] F H F' H' → F' D = some (.lst ys) → ys.length = xs.length → (∀ (i : Nat) y, ys[i]? = some y → R i y F') → Q (.ref D) H') :
    LcK J g te vs σ H Q := by
  intro D nD
  have zl : (16000000 : Nat) < sizeLine := by decide
  refine ⟨fun i m H' => i + m = xs.length ∧ ∃ ys F', Eff [] F H F' H' ∧ F' D = none ∧ H' D = some (.lst ys) ∧ ys.length = i ∧ ∀ (j : Nat) y, ys[j]? = some y → R j y F', ⟨xs.length, Nat.zero_add _, [], F, (Eff.refl sFH).loc nD, sFH.free nD, upd_same, rfl, fun j y h => by simp at h⟩, ?_⟩
  rintro i m H' ⟨him, ys, F', ef, fD, hD, hl, hR⟩
  have sm := ef.all
  cases m with
  | zero =>
    refine .inl ⟨hst i H' sm (by omega), hd D ys (upd F' D (.lst ys)) H' nD (ef.frz nD hD) upd_same (by omega) fun j y h => mono j y _ _ (same_new fD _) (hR j y h)⟩
  | succ m =>
    refine .inr ⟨hgo i H' sm (by omega), fun H'' => i + 1 + m = xs.length ∧ ∃ ys F', Eff [] F H F' H'' ∧ F' D = none ∧ H'' D = some (.lst ys) ∧ ys.length = i + 1 ∧ ∀ (j : Nat) y, ys[j]? = some y → R j y F', fun H'' h => ⟨m, Nat.lt_succ_self _, h⟩, ?_⟩
    intro x H'' hyl
    obtain ⟨rfl, hx⟩ := hy i x H' H'' sm hyl
    have step : ∀ y F4 H4, Eff [] F' H'' F4 H4 → R i y F4 → (∃ acc, H4 D = some (.lst acc) ∧ acc.length < sizeLine ∧ (i + 1 + m = xs.length ∧ ∃ ys F', Eff [] F H F' (upd H4 D (.lst (acc ++ [y]))) ∧ F' D = none ∧ (upd H4 D (.lst (acc ++ [y]))) D = some (.lst ys) ∧ ys.length = i + 1 ∧ ∀ (j : Nat) y, ys[j]? = some y → R j y F')) := by
      intro y F4 H4 e4 r4
      have h4 := e4.all D _ hD
      have f4 : F4 D = none := e4.fresh D fD (by rw [hD]; intro z; cases z)
      refine ⟨ys, h4, by omega, by omega, ys ++ [y], F4, (ef.pure e4).wr f4 (.inr nD), f4, upd_same, by rw [List.length_append, List.length_singleton, hl], fun j z hj => ?_⟩
      by_cases hji : j < i
      · rw [List.getElem?_append_left (by omega)] at hj
        exact mono j z _ _ e4.same (hR j z hj)
      · have : j = i := by
          have := (List.getElem?_eq_some_iff.mp hj).1
          rw [List.length_append, List.length_singleton] at this
          omega
        subst this
        rw [List.getElem?_append_right (by omega), hl, Nat.sub_self] at hj
        cases hj
        exact r4
    have q := hs i x F' H'' hx ef (fun y H4 => ∃ acc, H4 D = some (.lst acc) ∧ acc.length < sizeLine ∧ (i + 1 + m = xs.length ∧ ∃ ys F', Eff [] F H F' (upd H4 D (.lst (acc ++ [y]))) ∧ F' D = none ∧ (upd H4 D (.lst (acc ++ [y]))) D = some (.lst ys) ∧ ys.length = i + 1 ∧ ∀ (j : Nat) y, ys[j]? = some y → R j y F')) step
    exact q
/-- over a list or a tuple -/
theorem lcp (hq : SqL K H a xs ∨ SqT K H a xs) (hz : xs.length ≤ 16000000) (sFH : Same F H) (R : Nat → V → Hp → Prop) (mono : ∀ i y F F', Same F F' → R i y F → R i y F')
    (hs : ∀ (i : Nat) x F' H', xs[i]? = some x → Eff [] F H F' H' → ∀ k : VK, (∀ y F'' H'', Eff [] F' H' F'' H'' → R i y F'' → k y H'') → g x (wipe σ vs) H' fun σ2 H2 => wipe σ2 vs = wipe σ vs ∧ te σ2 H2 k)
    (hd : ∀ D ys F' H', H D = none → Eff [] F H F' H' → F' D = some (.lst ys) → ys.length = xs.length → (∀ (i : Nat) y, ys[i]? = some y → R i y F') → Q (.ref D) H') :
    ((∃ xs, SqL K H a xs) ∧ LcK (Itl K a) g te vs σ H Q) ∨ ((∃ xs, SqT K H a xs) ∧ LcK (Itt K a) g te vs σ H Q) := by
  rcases hq with h | h
  · refine .inl ⟨⟨xs, h⟩, lcp_core (fun i H' s hi => ⟨xs, s.seq h, hi⟩) (fun i H' s hi => ⟨xs, xs[i], s.seq h, List.getElem?_eq_getElem hi⟩) (fun i x H' H'' s y => ⟨y.1, y.2 xs (s.seq h)⟩) hz sFH R mono hs hd⟩
  · refine .inr ⟨⟨xs, h⟩, lcp_core (fun i H' s hi => ⟨xs, sqT_same s h, hi⟩) (fun i H' s hi => ⟨xs, xs[i], sqT_same s h, List.getElem?_eq_getElem hi⟩) (fun i x H' H'' s y => ⟨y.1, y.2 xs (sqT_same s h)⟩) hz sFH R mono hs hd⟩
/-- over a text, sign by sign -/
theorem lcp_str {x : Str} (hz : x.length ≤ 16000000) (sFH : Same F H) (R : Nat → V → Hp → Prop) (mono : ∀ i y F F', Same F F' → R i y F → R i y F')
    (hs : ∀ (i : Nat) c F' H', x.cps[i]? = some c → Eff [] F H F' H' → ∀ k : VK, (∀ y F'' H'', Eff [] F' H' F'' H'' → R i y F'' → k y H'') → g (.str ⟨#[c]⟩) (wipe σ vs) H' fun σ2 H2 => wipe σ2 vs = wipe σ vs ∧ te σ2 H2 k)
    (hd : ∀ D ys F' H', H D = none → Eff [] F H F' H' → F' D = some (.lst ys) → ys.length = x.length → (∀ (i : Nat) y, ys[i]? = some y → R i y F') → Q (.ref D) H') :
    LcK (Its x) g te vs σ H Q := by
  have el : (x.cps.toList.map fun c => V.str ⟨#[c]⟩).length = x.cps.size := by simp
  have ez : x.length = x.cps.size := rfl
  refine lcp_core (xs := x.cps.toList.map fun c => V.str ⟨#[c]⟩) (J := Its x) (fun i H' s hi => ?_) (fun i H' s hi => ?_) (fun i v H' H'' s y => ?_) (by rw [el]; omega) sFH R mono (fun i v F' H' hi e => ?_) fun D ys F' H' a b c d e => hd D ys F' H' a b c (by rw [d, el]; rfl) e
  · show x.cps.size ≤ i
    omega
  · show i < x.cps.size
    omega
  · obtain ⟨e, c, hc, hv⟩ := y
    refine ⟨e, ?_⟩
    rw [List.getElem?_map, Array.getElem?_toList, hc, hv]
    rfl
  · rw [List.getElem?_map, Array.getElem?_toList] at hi
    cases hc : x.cps[i]? with
    | none => rw [hc] at hi; cases hi
    | some c =>
      rw [hc] at hi
      cases hi
      exact hs i c F' H' hc e
end
end K6
set_option Elab.async false
set_option linter.all false
set_option maxRecDepth 100000
set_option maxHeartbeats 4000000
namespace K6
open PySem PySem.Spec PyProof.Rows L2
/-! ### the items -/
inductive Use where
  | lit (n : Int)
  | nam (x : Str)
def Use.v : Use → V
  | .lit n => .int n
  | .nam x => .str x
inductive Plain where
  | number (x : Str) (size : Int) (order : Str) (low high : Int)
  | bytes (x : Str) (u : Use)
  | text (x : Str) (stop most : Int)
  | check (x : Str) (m : Int)
  | pad (x : Str) (mult byte : Int)
def Plain.vs : Plain → List V
  | .number x s o l h => [.str "number", .str x, .int s, .str o, .int l, .int h]
  | .bytes x u => [.str "bytes", .str x, u.v]
  | .text x s m => [.str "text", .str x, .int s, .int m]
  | .check x m => [.str "check", .str x, .int m]
  | .pad x m b => [.str "pad", .str x, .int m, .int b]
def Plain.name : Plain → Str
  | .number x _ _ _ _ => x
  | .bytes x _ => x
  | .text x _ _ => x
  | .check x _ => x
  | .pad x _ _ => x
/-- an item over inner items α -/
inductive ItF (α : Type) where
  | pl (p : Plain)
  | rep (x : Str) (u : Use) (b : List α)
  | eit (x : Str) (bs : List (List α))
  | swi (x tag : Str) (cs : List (Int × List α))
/-- items with at most so many levels -/
def Itm : Nat → Type
  | 0 => Empty
  | d + 1 => ItF (Itm d)
section
variable {α : Type}
def ItF.name : ItF α → Str
  | .pl p => p.name
  | .rep x _ _ => x
  | .eit x _ => x
  | .swi x _ _ => x
def ItF.blocks : ItF α → List (List α)
  | .pl _ => []
  | .rep _ _ b => [b]
  | .eit _ bs => bs
  | .swi _ _ cs => cs.map (·.2)
end
abbrev Env1 := List (Str × Int × Int)
/-- the number that the item is -/
def Plain.num : Plain → Env1
  | .number x _ _ l h => [(x, l, h)]
  | _ => []
def ItF.num {α : Type} : ItF α → Env1
  | .pl p => p.num
  | _ => []
def Plain.chk : Plain → Nat
  | .check _ _ => 1
  | _ => 0
def ItF.chk {α : Type} : ItF α → Nat
  | .pl p => p.chk
  | _ => 0
/-- the names, the numbers, the checks of an item with all in its blocks -/
def nms : (d : Nat) → Itm d → List Str
  | 0, e => nomatch (show Empty from e)
  | d + 1, x => ItF.name x :: (ItF.blocks x).flatMap fun b => b.flatMap (nms d)
def nums : (d : Nat) → Itm d → Env1
  | 0, e => nomatch (show Empty from e)
  | d + 1, x => ((ItF.blocks x).flatMap fun b => b.flatMap (nums d)) ++ ItF.num x
def chks : (d : Nat) → Itm d → Nat
  | 0, e => nomatch (show Empty from e)
  | d + 1, x => ((ItF.blocks x).map fun b => (b.map (chks d)).sum).sum + ItF.chk x
/-! ### how it stands in the heap: z: blocks are tuples, else lists -/
def bx (z : Bool) (xs : List V) : HO := match z with
  | true => .tup xs
  | false => .lst xs
def IsSeq (z : Bool) (F : Hp) {α : Type} (P : V → α → Prop) (v : V) (l : List α) : Prop := ∃ a vs, v = .ref a ∧ F a = some (bx z vs) ∧ Paired P vs l ∧ l.length ≤ 1000
def IsIt (z : Bool) (F : Hp) : (d : Nat) → V → Itm d → Prop
  | 0, _, e => nomatch (show Empty from e)
  | d + 1, v, x => ∃ a, v = .ref a ∧ match (x : ItF (Itm d)) with
    | .pl p => F a = some (.tup p.vs)
    | .rep n u b => ∃ w, F a = some (.tup [.str "repeat", .str n, u.v, w]) ∧ IsSeq z F (IsIt z F d) w b
    | .eit n bs => ∃ w, F a = some (.tup [.str "either", .str n, w]) ∧ IsSeq z F (IsSeq z F (IsIt z F d)) w bs
    | .swi n t cs => ∃ w, F a = some (.tup [.str "switch", .str n, .str t, w]) ∧ IsSeq z F (fun v (c : Int × List (Itm d)) => ∃ e w', v = .ref e ∧ F e = some (.tup [.int c.1, w']) ∧ IsSeq z F (IsIt z F d) w' c.2) w cs
abbrev IsIts (z : Bool) (F : Hp) (d : Nat) (v : V) (l : List (Itm d)) : Prop := IsSeq z F (IsIt z F d) v l
theorem paired_mono {α β : Type} {P Q : α → β → Prop} (h : ∀ a b, P a b → Q a b) : ∀ {l : List α} {m : List β}, Paired P l m → Paired Q l m
  | _, _, .nil => .nil
  | _, _, .cons a r => .cons (h _ _ a) (paired_mono h r)
theorem paired_len {α β : Type} {P : α → β → Prop} : ∀ {l : List α} {m : List β}, Paired P l m → l.length = m.length
  | _, _, .nil => rfl
  | _, _, .cons _ r => by rw [List.length_cons, List.length_cons, paired_len r]
theorem paired_at {α β : Type} {P : α → β → Prop} : ∀ {l : List α} {m : List β}, Paired P l m → ∀ {i : Nat} {a : α}, l[i]? = some a → ∃ b, m[i]? = some b ∧ P a b
  | _, _, .nil, i, a, h => by simp at h
  | _, _, .cons h r, 0, a, e => by
    simp at e
    subst e
    exact ⟨_, rfl, h⟩
  | _, _, .cons h r, i + 1, a, e => by
    obtain ⟨b, h1, h2⟩ := paired_at r (i := i) (a := a) (by simpa using e)
    exact ⟨b, by simpa using h1, h2⟩
theorem paired_at' {α β : Type} {P : α → β → Prop} : ∀ {l : List α} {m : List β}, Paired P l m → ∀ {i : Nat} {b : β}, m[i]? = some b → ∃ a, l[i]? = some a ∧ P a b
  | _, _, .nil, i, a, h => by simp at h
  | _, _, .cons h r, 0, a, e => by
    simp at e
    subst e
    exact ⟨_, rfl, h⟩
  | _, _, .cons h r, i + 1, a, e => by
    obtain ⟨b, h1, h2⟩ := paired_at' r (i := i) (b := a) (by simpa using e)
    exact ⟨b, by simpa using h1, h2⟩
theorem paired_of {α β : Type} {P : α → β → Prop} : ∀ {l : List α} {m : List β}, l.length = m.length → (∀ (i : Nat) a b, l[i]? = some a → m[i]? = some b → P a b) → Paired P l m
  | [], [], _, _ => .nil
  | a :: l, b :: m, hl, h => .cons (h 0 a b rfl rfl) (paired_of (by simpa using hl) fun i x y e1 e2 => h (i + 1) x y (by simpa using e1) (by simpa using e2))
  | [], _ :: _, hl, _ => by simp at hl
  | _ :: _, [], hl, _ => by simp at hl
theorem isSeq_mono {z : Bool} {F F' : Hp} (s : Same F F') {α : Type} {P Q : V → α → Prop} (h : ∀ v x, P v x → Q v x) {v : V} {l : List α} (q : IsSeq z F P v l) : IsSeq z F' Q v l := by
  obtain ⟨a, vs, e, ha, hp, hl⟩ := q
  exact ⟨a, vs, e, s _ _ ha, paired_mono h hp, hl⟩
theorem isIt_mono {z : Bool} {F F' : Hp} (s : Same F F') : ∀ (d : Nat) (v : V) (x : Itm d), IsIt z F d v x → IsIt z F' d v x
  | 0, _, e, _ => nomatch (show Empty from e)
  | d + 1, v, .pl p, h => by
    obtain ⟨a, e, h⟩ := h
    exact ⟨a, e, s _ _ h⟩
  | d + 1, v, .rep n u b, h => by
    obtain ⟨a, e, w, h, q⟩ := h
    exact ⟨a, e, w, s _ _ h, isSeq_mono s (isIt_mono s d) q⟩
  | d + 1, v, .eit n bs, h => by
    obtain ⟨a, e, w, h, q⟩ := h
    exact ⟨a, e, w, s _ _ h, isSeq_mono s (fun _ _ y => isSeq_mono s (isIt_mono s d) y) q⟩
  | d + 1, v, .swi n t cs, h => by
    obtain ⟨a, e, w, h, q⟩ := h
    refine ⟨a, e, w, s _ _ h, isSeq_mono s (fun v c y => ?_) q⟩
    obtain ⟨f, w', h1, h2, h3⟩ := y
    exact ⟨f, w', h1, s _ _ h2, isSeq_mono s (isIt_mono s d) h3⟩
theorem isIts_mono {z : Bool} {F F' : Hp} (s : Same F F') {d : Nat} {v : V} {l : List (Itm d)} (h : IsIts z F d v l) : IsIts z F' d v l := isSeq_mono s (isIt_mono s d) h
theorem isSeq_sq {z : Bool} {F H : Hp} {K : PySem.W.Frag} (s : Same F H) {α : Type} {P : V → α → Prop} {v : V} {l : List α} (q : IsSeq z F P v l) : ∃ a vs, v = .ref a ∧ (SqL K H a vs ∨ SqT K H a vs) ∧ Paired P vs l ∧ vs.length = l.length ∧ l.length ≤ 1000 := by
  obtain ⟨a, vs, e, ha, hp, hl⟩ := q
  refine ⟨a, vs, e, ?_, hp, paired_len hp, hl⟩
  cases z with
  | true => exact .inr (SqT.of (s _ _ ha))
  | false => exact .inl (SqL.of (s _ _ ha))
/-- the tuple of an item, its first two parts -/
def ItF.tail {α : Type} : ItF α → V → List V
  | .pl p, _ => p.vs.drop 2
  | .rep _ u _, w => [u.v, w]
  | .eit _ _, w => [w]
  | .swi _ t _, w => [.str t, w]
def Plain.kind : Plain → Str
  | .number _ _ _ _ _ => "number"
  | .bytes _ _ => "bytes"
  | .text _ _ _ => "text"
  | .check _ _ => "check"
  | .pad _ _ _ => "pad"
def ItF.kind {α : Type} : ItF α → Str
  | .pl p => p.kind
  | .rep _ _ _ => "repeat"
  | .eit _ _ => "either"
  | .swi _ _ _ => "switch"
theorem Plain.vs_eq (p : Plain) : p.vs = .str p.kind :: .str p.name :: p.vs.drop 2 := by cases p <;> rfl
theorem isIt_tup {z : Bool} {F : Hp} {d : Nat} {v : V} {x : Itm (d + 1)} (h : IsIt z F (d + 1) v x) : ∃ a w, v = .ref a ∧ F a = some (.tup (.str (ItF.kind x) :: .str (ItF.name x) :: ItF.tail x w)) := by
  obtain ⟨a, e, h⟩ := h
  match x, h with
  | .pl p, h => exact ⟨a, .non, e, by rw [h]; exact congrArg (fun l => some (HO.tup l)) p.vs_eq⟩
  | .rep n u b, ⟨w, h, _⟩ => exact ⟨a, w, e, h⟩
  | .eit n bs, ⟨w, h, _⟩ => exact ⟨a, w, e, h⟩
  | .swi n t cs, ⟨w, h, _⟩ => exact ⟨a, w, e, h⟩
/-! ### the numbers by their names -/
def bndO (e : Env1) : Use → Option (Int × Int)
  | .lit n => some (n, n)
  | .nam x => e.lookup x
def bnd (e : Env1) (u : Use) : Int × Int := (bndO e u).getD (0, 0)
def minL (ns : List Int) : Int := ns.min?.getD 0
def maxL (ns : List Int) : Int := ns.max?.getD 0
theorem minL_eq {ns : List Int} {m : Int} (h : m ∈ ns) (hm : ∀ y, y ∈ ns → m ≤ y) : minL ns = m := by
  have e : ns.min? = some m := List.min?_eq_some_iff.mpr ⟨h, hm⟩
  unfold minL
  rw [e]
  rfl
theorem maxL_eq {ns : List Int} {m : Int} (h : m ∈ ns) (hm : ∀ y, y ∈ ns → y ≤ m) : maxL ns = m := by
  have e : ns.max? = some m := List.max?_eq_some_iff.mpr ⟨h, hm⟩
  unfold maxL
  rw [e]
  rfl
def leastP (e : Env1) : Plain → Int
  | .number _ s _ _ _ => s
  | .bytes _ u => (bnd e u).1
  | .text _ _ _ => 1
  | .check _ _ => 1
  | .pad _ _ _ => 0
def greatP (e : Env1) : Plain → Int
  | .number _ s _ _ _ => s
  | .bytes _ u => (bnd e u).2
  | .text _ _ m => m + 1
  | .check _ _ => 1
  | .pad _ m _ => m - 1
def least (e : Env1) : (d : Nat) → Itm d → Int
  | 0, x => nomatch (show Empty from x)
  | d + 1, x => match (x : ItF (Itm d)) with
    | .pl p => leastP e p
    | .rep _ u b => (bnd e u).1 * (b.map (least e d)).sum
    | .eit _ bs => minL (bs.map fun b => (b.map (least e d)).sum)
    | .swi _ _ cs => minL (cs.map fun c => (c.2.map (least e d)).sum)
def great (e : Env1) : (d : Nat) → Itm d → Int
  | 0, x => nomatch (show Empty from x)
  | d + 1, x => match (x : ItF (Itm d)) with
    | .pl p => greatP e p
    | .rep _ u b => (bnd e u).2 * (b.map (great e d)).sum
    | .eit _ bs => maxL (bs.map fun b => (b.map (great e d)).sum)
    | .swi _ _ cs => maxL (cs.map fun c => (c.2.map (great e d)).sum)
/-- the dict of the numbers -/
def IsEnv (F H : Hp) (nd : Addr) (e : Env1) : Prop := ∃ kvs, Rd H nd (.dK kvs) ∧ Paired (fun (kv : Key × V) (q : Str × Int × Int) => kv.1 = Sum.inr q.1 ∧ ∃ t, kv.2 = .ref t ∧ F t = some (.tup [.int q.2.1, .int q.2.2])) kvs e
theorem rd_same {H H' : Hp} {a : Addr} {u : HO} (s : Same H H') (h : Rd H a u) : Rd H' a u := by
  rcases h with h | ⟨o, h⟩
  · exact .inl (s _ _ h)
  · exact .inr ⟨o, s _ _ h⟩
theorem isEnv_same {F F' H H' : Hp} {nd : Addr} {e : Env1} (s : Same F F') (s' : Same H H') (h : IsEnv F H nd e) : IsEnv F' H' nd e := by
  obtain ⟨kvs, h1, h2⟩ := h
  exact ⟨kvs, rd_same s' h1, paired_mono (fun _ _ ⟨h, t, a, b⟩ => ⟨h, t, a, s _ _ b⟩) h2⟩
theorem isEnv_get {F H : Hp} {nd : Addr} {e : Env1} (h : IsEnv F H nd e) {x : Str} {lo hi : Int} (l : e.lookup x = some (lo, hi)) : ∃ t, DGet H nd (.str x) (some (.ref t)) ∧ F t = some (.tup [.int lo, .int hi]) := by
  obtain ⟨kvs, h1, h2⟩ := h
  have key : ∀ {kvs : List (Key × V)} {e : Env1}, Paired (fun (kv : Key × V) (q : Str × Int × Int) => kv.1 = Sum.inr q.1 ∧ ∃ t, kv.2 = .ref t ∧ F t = some (.tup [.int q.2.1, .int q.2.2])) kvs e → e.lookup x = some (lo, hi) →
      ∃ t, valV kvs (Sum.inr x) = some (.ref t) ∧ F t = some (.tup [.int lo, .int hi]) := by
    intro kvs e h l
    induction h with
    | nil => cases l
    | @cons kv q kvs e h r ih =>
      obtain ⟨h1, t, h2, h3⟩ := h
      obtain ⟨y, b⟩ := q
      rw [List.lookup_cons] at l
      by_cases hy : x = y
      · subst hy
        simp only [beq_self_eq_true] at l
        cases l
        exact ⟨t, by rw [valV_pos h1, h2], h3⟩
      · have hb : (x == y) = false := by simpa using hy
        rw [hb] at l
        obtain ⟨t', h4, h5⟩ := ih l
        exact ⟨t', by rw [valV_neg (fun z => hy (by rw [h1] at z; exact (Sum.inr.inj z).symm))]; exact h4, h5⟩
  obtain ⟨t, h4, h5⟩ := key h2 l
  exact ⟨t, .inl ⟨kvs, Sum.inr x, h1, rfl, h4.symm⟩, h5⟩
/-- a use whose bounds are known -/
def UseC (e : Env1) (u : Use) : Prop := ∃ lo hi, bndO e u = some (lo, hi) ∧ 0 ≤ lo ∧ lo ≤ hi ∧ hi ≤ 64
def ClosedP (e : Env1) : Plain → Prop
  | .bytes _ u => UseC e u
  | _ => True
/-- all uses within are known, no choice without blocks -/
def Closed (e : Env1) : (d : Nat) → Itm d → Prop
  | 0, x => nomatch (show Empty from x)
  | d + 1, x => match (x : ItF (Itm d)) with
    | .pl p => ClosedP e p
    | .rep _ u b => UseC e u ∧ ∀ y ∈ b, Closed e d y
    | .eit _ bs => bs ≠ [] ∧ ∀ b ∈ bs, ∀ y ∈ b, Closed e d y
    | .swi _ _ cs => cs ≠ [] ∧ ∀ c ∈ cs, ∀ y ∈ c.2, Closed e d y
/-! ### the written form -/
def txt : V → Str
  | .str x => x
  | .int i => (toString i : String)
  | _ => Str.empty
/-- the lines, each by its words -/
def lnw : (d : Nat) → Itm d → List (List Str)
  | 0, x => nomatch (show Empty from x)
  | d + 1, x => match (x : ItF (Itm d)) with
    | .pl p => [p.vs.map txt]
    | .rep n u b => (["repeat", n, txt u.v] : List Str) :: (b.flatMap (lnw d) ++ [(["end"] : List Str)])
    | .eit n bs => (["either", n] : List Str) :: ((bs.flatMap fun b => (["choice"] : List Str) :: b.flatMap (lnw d)) ++ [(["end"] : List Str)])
    | .swi n t cs => (["switch", n, t] : List Str) :: ((cs.flatMap fun c => (["case", txt (.int c.1)] : List Str) :: c.2.flatMap (lnw d)) ++ [(["end"] : List Str)])
def jn (ws : List Str) : Str := Txt.join " " ws
/-- the lines as texts -/
def lns (d : Nat) (l : List (Itm d)) : List Str := (l.flatMap (lnw d)).map jn
/-! ### the rules -/
def nameChars : Str := "abcdefghijklmnopqrstuvwxyz0123456789"
def digits : Str := "0123456789"
def isNameB (x : Str) : Bool := decide (1 ≤ x.length) && decide (x.length ≤ 12) && (match x.cps.toList with
  | [] => false
  | c :: _ => !decide (c ∈ digits.cps.toList)) && x.cps.toList.all fun c => decide (c ∈ nameChars.cps.toList)
def isIntB (x : Str) : Bool := decide (1 ≤ x.length) && decide (x.length ≤ 9) && (x.cps.toList.all fun c => decide (c ∈ digits.cps.toList)) && (decide (x = "0") || (match x.cps.toList with
  | [] => false
  | c :: _ => !decide (c = 48)))
def UseOk (vis : Env1) (most : Int) : Use → Prop
  | .lit n => 0 ≤ n ∧ n ≤ most
  | .nam x => ∃ lo hi, (x, lo, hi) ∈ vis ∧ 0 ≤ lo ∧ lo ≤ hi ∧ hi ≤ most
def OkP (vis : Env1) : Plain → Prop
  | .number _ s o l h => ((s = 1 ∧ h ≤ 255) ∨ (s = 2 ∧ h ≤ 65535)) ∧ (o = "big" ∨ o = "little") ∧ 0 ≤ l ∧ l ≤ h
  | .bytes _ u => UseOk vis 64 u
  | .text _ s m => (0 ≤ s ∧ s ≤ 255) ∧ 0 ≤ m ∧ m ≤ 64
  | .check _ m => 1 ≤ m ∧ m ≤ 16
  | .pad _ m b => (m = 1 ∨ m = 2 ∨ m = 4 ∨ m = 8 ∨ m = 16) ∧ 0 ≤ b ∧ b ≤ 255
/-- a block that begins with a number -/
def Begins {α : Type} : List (ItF α) → Prop
  | .pl (.number _ _ _ _ _) :: _ => True
  | _ => False
def BeginsD : (d : Nat) → List (Itm d) → Prop
  | 0, _ => False
  | _ + 1, b => Begins b
def numOf : (d : Nat) → Itm d → Env1
  | 0, x => nomatch (show Empty from x)
  | _ + 1, x => ItF.num x
/-- a list of items, one behind another -/
def OkL {d : Nat} (ok : Env1 → Itm d → Prop) : Env1 → List (Itm d) → Prop
  | _, [] => True
  | vis, x :: r => ok vis x ∧ OkL ok (vis ++ numOf d x) r
def OkI : (d : Nat) → Env1 → Itm d → Prop
  | 0, _, x => nomatch (show Empty from x)
  | d + 1, vis, x => isNameB (ItF.name x) = true ∧ match (x : ItF (Itm d)) with
    | .pl p => OkP vis p
    | .rep _ u b => 1 ≤ d ∧ UseOk vis 16 u ∧ BeginsD d b ∧ b.length ≤ 12 ∧ OkL (OkI d) vis b
    | .eit _ bs => 1 ≤ d ∧ 2 ≤ bs.length ∧ bs.length ≤ 4 ∧ (∀ b ∈ bs, b.length ≤ 12 ∧ OkL (OkI d) vis b) ∧ ∀ b ∈ bs.drop 1, BeginsD d b
    | .swi _ t cs => 1 ≤ d ∧ (∃ lo hi, (t, lo, hi) ∈ vis) ∧ 1 ≤ cs.length ∧ cs.length ≤ 8 ∧ (cs.map (·.1)).Nodup ∧ ∀ c ∈ cs, (0 ≤ c.1 ∧ c.1 ≤ 65535) ∧ c.2.length ≤ 12 ∧ OkL (OkI d) vis c.2
end K6
set_option Elab.async false
set_option linter.all false
set_option maxRecDepth 100000
set_option maxHeartbeats 4000000
namespace K6
open PySem PySem.Spec PyProof.Rows L2
/-! ### the facts of the module -/
def partsTab : List (Str × Int) := [("number", 6), ("bytes", 3), ("text", 4), ("repeat", 4), ("either", 3), ("switch", 4), ("check", 3), ("pad", 4)]
def noParts : List Str := ["", "end", "choice", "case"]
def formsTab : List (Str × Str) := [("number", "name integer order integer integer"), ("bytes", "name use"), ("text", "name integer integer"), ("repeat", "name use"), ("either", "name"), ("switch", "name name"),
  ("check", "name integer"), ("pad", "name integer integer"), ("choice", ""), ("case", "integer"), ("end", "")]
structure Tx (w : World) (K : PySem.W.Frag) (mg : Str → Option Value) : Prop where
  g_is_name : mg "is_name" = some (.ref (He.ga K "is_name"))
  g_is_byte : mg "is_byte" = some (.ref (He.ga K "is_byte"))
  g_blocks_of : mg "blocks_of" = some (.ref (He.ga K "blocks_of"))
  g_copied : mg "copied" = some (.ref (He.ga K "copied"))
  g_copied_items : mg "copied_items" = some (.ref (He.ga K "copied_items"))
  g_bounds : mg "bounds" = some (.ref (He.ga K "bounds"))
  g_least_of : mg "least_of" = some (.ref (He.ga K "least_of"))
  g_least_of_items : mg "least_of_items" = some (.ref (He.ga K "least_of_items"))
  g_greatest_of : mg "greatest_of" = some (.ref (He.ga K "greatest_of"))
  g_greatest_of_items : mg "greatest_of_items" = some (.ref (He.ga K "greatest_of_items"))
  g_format_items : mg "format_items" = some (.ref (He.ga K "format_items"))
  g_format_shape : mg "format_shape" = some (.ref (He.ga K "format_shape"))
  g_is_integer : mg "is_integer" = some (.ref (He.ga K "is_integer"))
  g_has_sort : mg "has_sort" = some (.ref (He.ga K "has_sort"))
  g_parsed : mg "parsed" = some (.ref (He.ga K "parsed"))
  g_parse_shape : mg "parse_shape" = some (.ref (He.ga K "parse_shape"))
  g__law_row : mg "_law_row" = some (.ref (He.ga K "_law_row"))
  g__law_numbers : mg "_law_numbers" = some (.ref (He.ga K "_law_numbers"))
  g__law_next : mg "_law_next" = some (.ref (He.ga K "_law_next"))
  g__law_begin : mg "_law_begin" = some (.ref (He.ga K "_law_begin"))
  g__law_number : mg "_law_number" = some (.ref (He.ga K "_law_number"))
  g__law_use : mg "_law_use" = some (.ref (He.ga K "_law_use"))
  g__law_block : mg "_law_block" = some (.ref (He.ga K "_law_block"))
  g__law_nested : mg "_law_nested" = some (.ref (He.ga K "_law_nested"))
  g__law_item : mg "_law_item" = some (.ref (He.ga K "_law_item"))
  g__law_items : mg "_law_items" = some (.ref (He.ga K "_law_items"))
  g__law_frozen : mg "_law_frozen" = some (.ref (He.ga K "_law_frozen"))
  g__law_lines : mg "_law_lines" = some (.ref (He.ga K "_law_lines"))
  g_law : mg "law" = some (.ref (He.ga K "law"))
  g_PARTS : mg "PARTS" = some (.ref (He.ga K "PARTS"))
  g_GREATEST : mg "GREATEST" = some (.ref (He.ga K "GREATEST"))
  g_ORDERS : mg "ORDERS" = some (.ref (He.ga K "ORDERS"))
  g_MULTIPLES : mg "MULTIPLES" = some (.ref (He.ga K "MULTIPLES"))
  g_FORMS : mg "FORMS" = some (.ref (He.ga K "FORMS"))
  g_ShapeCheck : mg "ShapeCheck" = some (.ref (He.ga K "ShapeCheck"))
  g_Shape : mg "Shape" = some (.ref (He.ga K "Shape"))
  g_ShapeReader : mg "ShapeReader" = some (.ref (He.ga K "ShapeReader"))
  f_len : mg "len" = none
  f_all : mg "all" = none
  f_list : mg "list" = none
  f_isinstance : mg "isinstance" = none
  f_int : mg "int" = none
  f_sum : mg "sum" = none
  f_min : mg "min" = none
  f_max : mg "max" = none
  f_tuple : mg "tuple" = none
  f_range : mg "range" = none
  f_abs : mg "abs" = none
  f_str : mg "str" = none
  f_enumerate : mg "enumerate" = none
  s_NAME_CHARS : ∃ t, mg "NAME_CHARS" = some (.str "abcdefghijklmnopqrstuvwxyz0123456789" t)
  s_DIGITS : ∃ t, mg "DIGITS" = some (.str "0123456789" t)
  i_MOST_NAME_CHARS : ∃ t, mg "MOST_NAME_CHARS" = some (.int 12 t)
  i_MOST_ITEMS : ∃ t, mg "MOST_ITEMS" = some (.int 12 t)
  i_MOST_NAMES : ∃ t, mg "MOST_NAMES" = some (.int 30 t)
  i_MOST_DEPTH : ∃ t, mg "MOST_DEPTH" = some (.int 3 t)
  i_MOST_LENGTH : ∃ t, mg "MOST_LENGTH" = some (.int 64 t)
  i_MOST_COUNT : ∃ t, mg "MOST_COUNT" = some (.int 16 t)
  i_MOST_CHOICES : ∃ t, mg "MOST_CHOICES" = some (.int 4 t)
  i_MOST_CASES : ∃ t, mg "MOST_CASES" = some (.int 8 t)
  i_MOST_MODULUS : ∃ t, mg "MOST_MODULUS" = some (.int 16 t)
  i_MOST_DIGITS : ∃ t, mg "MOST_DIGITS" = some (.int 9 t)
  c_ShapeCheck : Cls K (He.ga K "ShapeCheck")
  c_Shape : Cls K (He.ga K "Shape")
  c_ShapeReader : Cls K (He.ga K "ShapeReader")
  k_ShapeCheck : Mk K (He.ga K "ShapeCheck") (He.ma K (He.ga K "ShapeCheck") "__init__")
  k_Shape : Mk K (He.ga K "Shape") (He.ma K (He.ga K "Shape") "__init__")
  k_ShapeReader : Mk K (He.ga K "ShapeReader") (He.ma K (He.ga K "ShapeReader") "__init__")
  n_ShapeCheck_names : NoAttr K (He.ga K "ShapeCheck") "names"
  n_ShapeCheck_numbers : NoAttr K (He.ga K "ShapeCheck") "numbers"
  n_ShapeCheck_checks : NoAttr K (He.ga K "ShapeCheck") "checks"
  n_Shape_parts : NoAttr K (He.ga K "Shape") "parts"
  n_Shape_names : NoAttr K (He.ga K "Shape") "names"
  n_Shape_bounds : NoAttr K (He.ga K "Shape") "bounds"
  n_ShapeReader_lines : NoAttr K (He.ga K "ShapeReader") "lines"
  n_ShapeReader_at : NoAttr K (He.ga K "ShapeReader") "at"
  m_ShapeCheck_require : Meth K (He.ga K "ShapeCheck") "require" (He.ma K (He.ga K "ShapeCheck") "require")
  m_ShapeCheck_check_items : Meth K (He.ga K "ShapeCheck") "check_items" (He.ma K (He.ga K "ShapeCheck") "check_items")
  m_ShapeCheck_check_plain : Meth K (He.ga K "ShapeCheck") "check_plain" (He.ma K (He.ga K "ShapeCheck") "check_plain")
  m_ShapeCheck_check_uses : Meth K (He.ga K "ShapeCheck") "check_uses" (He.ma K (He.ga K "ShapeCheck") "check_uses")
  m_ShapeCheck_check_lengths : Meth K (He.ga K "ShapeCheck") "check_lengths" (He.ma K (He.ga K "ShapeCheck") "check_lengths")
  m_ShapeReader_next_word : Meth K (He.ga K "ShapeReader") "next_word" (He.ma K (He.ga K "ShapeReader") "next_word")
  m_ShapeReader_take : Meth K (He.ga K "ShapeReader") "take" (He.ma K (He.ga K "ShapeReader") "take")
  m_ShapeReader_take_items : Meth K (He.ga K "ShapeReader") "take_items" (He.ma K (He.ga K "ShapeReader") "take_items")
  m_ShapeReader_take_item : Meth K (He.ga K "ShapeReader") "take_item" (He.ma K (He.ga K "ShapeReader") "take_item")
  m_ShapeReader_take_blocks : Meth K (He.ga K "ShapeReader") "take_blocks" (He.ma K (He.ga K "ShapeReader") "take_blocks")
  dP : ∃ es n, KDict K w (He.ga K "PARTS") es n
  pIn : ∀ q ∈ partsTab, ∃ u, PySem.W.nsIn K (He.ga K "PARTS") q.1 = some (some u) ∧ RelV (.int q.2) u
  pOut : ∀ z ∈ noParts, PySem.W.nsIn K (He.ga K "PARTS") z = some none
  dF : ∃ es n, KDict K w (He.ga K "FORMS") es n
  fIn : ∀ q ∈ formsTab, ∃ u, PySem.W.nsIn K (He.ga K "FORMS") q.1 = some (some u) ∧ RelV (.str q.2) u
  dG : KInt K (He.ga K "GREATEST") [(1, 255), (2, 65535)]
  tO : ∀ H, SqT K H (He.ga K "ORDERS") [.str "big", .str "little"]
  tM : ∀ H, SqT K H (He.ga K "MULTIPLES") [.int 1, .int 2, .int 4, .int 8, .int 16]
section
variable {X : Cx} {d : Addr}
def rInP (K : PySem.W.Frag) (d : Addr) : R2 := fun x y H Q => ∃ (z : Str) (r : Option Value), x = .str z ∧ y = .ref d ∧ PySem.W.nsIn K d z = some r ∧ Q (.bl r.isSome) H
theorem op_inP (h : ∃ es n, KDict X.K X.w d es n) : OpR X (compareOp .In) (rInP X.K d) := by
  obtain ⟨es, n, D⟩ := h
  exact op_in_kd D
/-- a property of an own class, read -/
def Pc (P : Program) (w : World) (K : PySem.W.Frag) (mg : Str → Option Value) (base : Heap) (k : Nat) (C : Addr) (m : Str) (sp : Sp) : Prop :=
  ∃ p g fd ps, PropOf K C m p g ∧ FnOk P w K mg base CX0 k g fd ps sp ∧ Binds K fd ps []
def tPr (C : Addr) (sp : Sp) (ta : TE) : TE := fun σ H Q => ta σ H fun x H1 => ∃ a dx fs, x = .ref a ∧ H1 a = some (.ins C dx fs) ∧ sp [.ref a] H1 Q E0
theorem pe_pr {k : Nat} {C : Addr} {f : Str} {sp : Sp} {e : Expr} {pos : Pos} {ta : TE} (he : PE X e ta) (c : Cls X.K C) (F : Pc X.prog X.w X.K X.mg X.base k C f sp) (hr : Room (k + 1) X.A) (hab : attributeBase e f X.env (eval e X.env) = eval e X.env) : PE X (.Attribute e f pos) (tPr C sp ta) := by
  obtain ⟨p, g, fd, ps, hp, F, hb⟩ := F
  exact pe_prop he c hp F hr hb .nil pass0 hab
/-- a class made by its __init__'s promise -/
def Kc (P : Program) (w : World) (K : PySem.W.Frag) (mg : Str → Option Value) (base : Heap) (k : Nat) (C f : Addr) (sp : Sp) : Prop := FnR P w K mg base CX0 k f sp
def tMk (C : Addr) (sp : Sp) (t : TA) : TE := fun σ H Q => t σ H fun vs H1 => ∀ x dx, H1 x = Option.none → H1 dx = Option.none → dx ≠ x →
  sp (V.ref x :: vs) (upd (upd H1 dx (.own x)) x (.ins C dx [])) (fun v H2 => v = .non ∧ Q (.ref x) H2) E0
theorem pe_mk {k : Nat} {C f : Addr} {x : Str} {sp : Sp} {e : Expr} {es : List Expr} {p pos : Pos} {t : TA} (M : Mk X.K C f) (hm : X.mg x = some (.ref C)) (F : FnR X.prog X.w X.K X.mg X.base CX0 k f sp) (hr : Room (k + 1) X.A) (ha : PA X (e :: es) t) (hg : Gl X x := by rfl) (hdb : (x == ("__debug__" : Str)) = false := by decide)
    (he : starEach (e :: es) X.env = (false, eval e X.env) :: starEach es X.env := by rfl) (hpl : (backTo pos (starEach es X.env)).any (·.1) = false := by rfl) : PE X (.Call (.Name x p) (e :: es) [] pos) (tMk C sp t) :=
  StX.pe_makeR M F hr hg hm pass0 ha hdb he hpl
theorem pe_mk0 {k : Nat} {C f : Addr} {x : Str} {sp : Sp} {p pos : Pos} (M : Mk X.K C f) (hm : X.mg x = some (.ref C)) (F : FnR X.prog X.w X.K X.mg X.base CX0 k f sp) (hr : Room (k + 1) X.A) (hg : Gl X x := by rfl) (hdb : (x == ("__debug__" : Str)) = false := by decide) : PE X (.Call (.Name x p) [] [] pos) (tMk C sp tNil) := by
  refine ⟨fun pins s σ H Q I h => ?_⟩
  refine wpAny_Call_Name_kw (ld_glob I hg hm ?_ hdb)
  exact PySem.W.callWith_K0 I.kIn M.kp (StX.run_makeR (us := []) (vs := []) M F hr pass0 I .nil h)
end
end K6
set_option Elab.async false
set_option linter.all false
set_option maxRecDepth 100000
set_option maxHeartbeats 4000000
namespace K6
open PySem PySem.Spec PyProof.Rows L2
theorem at_nat_ {α : Type} {xs : List α} {z : Int} {j : Nat} {v : α} (e : z = (j : Int)) (h : xs[j]? = some v) : atI xs z = some v := by
  rw [e]
  exact atI_nat h
section
variable {P : Program} {w : World} {K : PySem.W.Frag} {mg : Str → Option Value} {base : Heap} {f : Addr} {fd : FuncData}
theorem at0 {α : Type} {x : α} {r : List α} : atI (x :: r) 0 = some x := at_nat_ (j := 0) rfl rfl
theorem at1 {α : Type} {x y : α} {r : List α} : atI (x :: y :: r) 1 = some y := at_nat_ (j := 1) rfl rfl
theorem at2 {α : Type} {x y z : α} {r : List α} : atI (x :: y :: z :: r) 2 = some z := at_nat_ (j := 2) rfl rfl
theorem at3 {α : Type} {x y z u : α} {r : List α} : atI (x :: y :: z :: u :: r) 3 = some u := at_nat_ (j := 3) rfl rfl
/-! ### is_name, is_integer: signs -/
def spIsName : Sp := fun vs H Q _ => ∃ x : Str, vs = [.str x] ∧ x.length ≤ 1000 ∧ ∀ H', Same H H' → Q (.bl (isNameB x)) H'
abbrev s_is_name : Stmt := top 21
abbrev N_is_name : List Str := ["text", "char"]
theorem sc_is_name : FnScope N_is_name ["text"] (defScope s_is_name) := ⟨rfl, rfl, rfl, by decide +kernel, rfl, by decide +kernel, by decide +kernel⟩
theorem b_is_name (kV doc pm : Value) (an : Option Addr) (cdv ct : Value) (us : List Value) (hl : us.length = (["text"] : List Str).length) : bindArgs (PySem.W.fnOf "is_name" "is_name" (defArgs s_is_name) (defBody s_is_name) (defScope s_is_name) .none kV doc pm an cdv ct) ⟨us, []⟩ = pure ((["text"] : List Str).zip us) := match us, hl with | [_], _ => rfl
theorem ok_is_name (F : Fun K "is_name" "is_name" s_is_name f fd) (T : Tx w K mg) : FnR P w K mg base CX0 1 f spIsName := by
  refine raw_of F sc_is_name b_is_name (fun vs H Q E h => by obtain ⟨x, rfl, _⟩ := h; rfl) (fun cdv A outer s H vs Q E hr h => ?_)
  obtain ⟨x, rfl, hx, q⟩ := h
  refine ⟨_, (pss_cons (ps_if (PW.pt (pw_or (pt_not (pt_chain op_le op_le pe_int (pe_callB call_len_str (by rfl) T.f_len PySem.boot_len (pa_cons (pv 0) pa_nil)) (pe_gint T.i_MOST_NAME_CHARS))) (pw_or1 (pt_cmpR op_in_sign (pe_ix ix_str (pv 0) pe_int (fun _ _ => rfl)) pe_str (by rfl)))))
      (pss_one (ps_ret pe_bl))
      pss_nil)
    (pss_one (ps_ret (pe_callB (cr_all rfl) (by rfl) T.f_all (by decide +kernel) (pa_cons (pe_lcs (pe_lc (own := [("char", 1)]) (g := gName 1) (tt := tYes) rfl sc_is_name.nd (pi_str (pv 0)) (blkOk_by (own := [("char", 1)]) (N := N_is_name) (sc := defScope s_is_name) (by decide +kernel)) (fun _ _ _ _ _ => (pg_name (i := 1) sc_is_name.nd rfl (by first | exact Or.inl rfl | exact Or.inr rfl))) (fun _ _ _ _ _ => pts_nil) (fun _ _ _ _ _ => (pe_cmpR op_in_sign (pv 1) (pe_gstr T.s_NAME_CHARS) (by rfl))))) pa_nil))))), ?_⟩
  have hz : x.length ≤ sizeLine := small hx
  have el : x.cps.toList.length = x.length := by simp [PySem.Str.length]
  have no : (isNameB x = false) → Q (.bl false) H := fun e => by have z := q H (Same.refl H); rw [e] at z; exact z
  refine ⟨_, rfl, x, rfl, hz, _, _, rfl, rfl, _, rfl, ite2 (fun c => ?_) (fun c => ?_)⟩
  · have c1 : (1 : Int) ≤ (x.length : Int) := of_decide_eq_true c
    refine ⟨_, _, rfl, rfl, _, rfl, ite2 (fun c => ?_) (fun c => ?_)⟩
    · have c2 : ¬ x.length ≤ 12 := fun z => by
        have : decide ((x.length : Int) ≤ 12) = true := decide_eq_true (by omega)
        rw [this] at c
        cases c
      exact no (by simp [isNameB, c2])
    · have c2 : x.length ≤ 12 := by
        cases e : decide ((x.length : Int) ≤ 12) with
        | true => have := of_decide_eq_true e; omega
        | false => rw [e] at c; exact absurd rfl c
      cases hl : x.cps.toList with
      | nil => rw [hl] at el; simp at el; omega
      | cons ch r =>
        refine ⟨_, rfl, x, 0, ch, rfl, rfl, hz, (by rw [hl]; exact at0), ch, digits, rfl, rfl, _, rfl, ite2 (fun c => ?_) (fun c => ?_)⟩
        · have c3 : ch ∈ digits.cps.toList := of_decide_eq_true c
          exact no (by simp [isNameB, hl, c3])
        · have c3 : ¬ ch ∈ digits.cps.toList := fun z => c (decide_eq_true z)
          refine ⟨_, rfl, x, rfl, lcp_str (x := x) (F := H) (by omega) (Same.refl H) (fun i y _ => ∃ c, x.cps[i]? = some c ∧ y = .bl (decide (c ∈ nameChars.cps.toList))) (fun _ _ _ _ _ h => h) (fun i c F' H' hc ef k hk => ?_) (fun D ys F' H' nD ef hD hl2 hR => ?_)⟩
          · exact ⟨rfl, _, rfl, c, nameChars, rfl, rfl, hk _ _ _ (Eff.refl ef.sub) ⟨c, hc, rfl⟩⟩
          · have ey : ys = (x.cps.toList.map fun c => decide (c ∈ nameChars.cps.toList)).map V.bl := by
              refine List.ext_getElem? fun i => ?_
              cases hi : ys[i]? with
              | none =>
                have := List.getElem?_eq_none_iff.mp hi
                refine (List.getElem?_eq_none_iff.mpr ?_).symm
                simp only [List.length_map]
                omega
              | some y =>
                obtain ⟨c, h1, rfl⟩ := hR i y hi
                rw [List.getElem?_map, List.getElem?_map, Array.getElem?_toList, h1]
                rfl
            rw [ey] at hD
            refine ⟨D, _, rfl, SqL.of (ef.sub _ _ hD), ?_⟩
            have z := q H' ef.all
            have e : isNameB x = (x.cps.toList.map fun c => decide (c ∈ nameChars.cps.toList)).all id := by
              have e1 : decide (1 ≤ x.length) = true := decide_eq_true (by omega)
              have e2 : decide (x.length ≤ 12) = true := decide_eq_true c2
              have e3 : decide (ch ∈ digits.cps.toList) = false := decide_eq_false c3
              simp only [isNameB, e1, e2, hl, e3, List.all_map, Bool.true_and, Bool.not_false]
              rfl
            rw [e] at z
            exact z
  · have c1 : ¬ 1 ≤ x.length := fun z => c (decide_eq_true (by omega))
    exact ⟨_, rfl, iteT (no (by simp [isNameB, c1]))⟩
theorem list_of_at {α : Type} {ys : List V} {l : List α} (f : α → V) (hl : ys.length = l.length) (h : ∀ (i : Nat) y, ys[i]? = some y → ∃ c, l[i]? = some c ∧ y = f c) : ys = l.map f := by
  refine List.ext_getElem? fun i => ?_
  rw [List.getElem?_map]
  cases hi : ys[i]? with
  | none =>
    have := List.getElem?_eq_none_iff.mp hi
    rw [List.getElem?_eq_none_iff.mpr (by omega)]
    rfl
  | some y =>
    obtain ⟨c, h1, rfl⟩ := h i y hi
    rw [h1]
    rfl
def spIsByte : Sp := fun vs H Q _ => ∃ n : Int, vs = [.int n] ∧ ∀ H', Same H H' → Q (.bl (decide (0 ≤ n) && decide (n ≤ 255))) H'
abbrev s_is_byte : Stmt := top 22
abbrev N_is_byte : List Str := ["number"]
theorem sc_is_byte : FnScope N_is_byte ["number"] (defScope s_is_byte) := ⟨rfl, rfl, rfl, by decide +kernel, rfl, by decide +kernel, by decide +kernel⟩
theorem b_is_byte (kV doc pm : Value) (an : Option Addr) (cdv ct : Value) (us : List Value) (hl : us.length = (["number"] : List Str).length) : bindArgs (PySem.W.fnOf "is_byte" "is_byte" (defArgs s_is_byte) (defBody s_is_byte) (defScope s_is_byte) .none kV doc pm an cdv ct) ⟨us, []⟩ = pure ((["number"] : List Str).zip us) := match us, hl with | [_], _ => rfl
theorem ok_is_byte (F : Fun K "is_byte" "is_byte" s_is_byte f fd) (T : Tx w K mg) : FnR P w K mg base CX0 1 f spIsByte := by
  refine raw_of F sc_is_byte b_is_byte (fun vs H Q E h => by obtain ⟨x, rfl, _⟩ := h; rfl) (fun cdv A outer s H vs Q E hr h => ?_)
  obtain ⟨n, rfl, q⟩ := h
  refine ⟨_, (pss_one (ps_ret (pe_chain op_le op_le pe_int (pv 0) pe_int))), ?_⟩
  have z := q H (Same.refl H)
  refine ⟨_, rfl, _, _, rfl, rfl, _, rfl, ite2 (fun c => ?_) (fun c => ?_)⟩
  · rw [c, Bool.true_and] at z
    exact ⟨_, _, rfl, rfl, z⟩
  · rw [Bool.eq_false_iff.mpr c, Bool.false_and] at z
    exact z
def spIsInteger : Sp := fun vs H Q _ => ∃ x : Str, vs = [.str x] ∧ x.length ≤ 1000 ∧ ∀ H', Same H H' → Q (.bl (isIntB x)) H'
abbrev s_is_integer : Stmt := top 39
abbrev N_is_integer : List Str := ["word", "char"]
theorem sc_is_integer : FnScope N_is_integer ["word"] (defScope s_is_integer) := ⟨rfl, rfl, rfl, by decide +kernel, rfl, by decide +kernel, by decide +kernel⟩
theorem b_is_integer (kV doc pm : Value) (an : Option Addr) (cdv ct : Value) (us : List Value) (hl : us.length = (["word"] : List Str).length) : bindArgs (PySem.W.fnOf "is_integer" "is_integer" (defArgs s_is_integer) (defBody s_is_integer) (defScope s_is_integer) .none kV doc pm an cdv ct) ⟨us, []⟩ = pure ((["word"] : List Str).zip us) := match us, hl with | [_], _ => rfl
theorem ok_is_integer (F : Fun K "is_integer" "is_integer" s_is_integer f fd) (T : Tx w K mg) : FnR P w K mg base CX0 1 f spIsInteger := by
  refine raw_of F sc_is_integer b_is_integer (fun vs H Q E h => by obtain ⟨x, rfl, _⟩ := h; rfl) (fun cdv A outer s H vs Q E hr h => ?_)
  obtain ⟨x, rfl, hx, q⟩ := h
  refine ⟨_, (pss_cons (ps_if (PW.pt (pw_or (pt_not (pt_chain op_le op_le pe_int (pe_callB call_len_str (by rfl) T.f_len PySem.boot_len (pa_cons (pv 0) pa_nil)) (pe_gint T.i_MOST_DIGITS))) (pw_or1 (pt_not (pt_val (pe_callB (cr_all rfl) (by rfl) T.f_all (by decide +kernel) (pa_cons (pe_lcs (pe_lc (own := [("char", 1)]) (g := gName 1) (tt := tYes) rfl sc_is_integer.nd (pi_str (pv 0)) (blkOk_by (own := [("char", 1)]) (N := N_is_integer) (sc := defScope s_is_integer) (by decide +kernel)) (fun _ _ _ _ _ => (pg_name (i := 1) sc_is_integer.nd rfl (by first | exact Or.inl rfl | exact Or.inr rfl))) (fun _ _ _ _ _ => pts_nil) (fun _ _ _ _ _ => (pe_cmpR op_in_sign (pv 1) (pe_gstr T.s_DIGITS) (by rfl))))) pa_nil)))))))
      (pss_one (ps_ret pe_bl))
      pss_nil)
    (pss_one (ps_ret (pe_or (pe_cmpR op_eq (pv 0) pe_str (nomark _)) (pe_one (pe_cmpR op_ne (pe_ix ix_str (pv 0) pe_int (fun _ _ => rfl)) pe_str (nomark _))))))), ?_⟩
  have hz : x.length ≤ sizeLine := small hx
  have el : x.cps.toList.length = x.length := by simp [PySem.Str.length]
  have no : ∀ H', Same H H' → (isIntB x = false) → Q (.bl false) H' := fun H' s e => by have z := q H' s; rw [e] at z; exact z
  refine ⟨_, rfl, x, rfl, hz, _, _, rfl, rfl, _, rfl, ite2 (fun c => ?_) (fun c => ?_)⟩
  · have c1 : (1 : Int) ≤ (x.length : Int) := of_decide_eq_true c
    refine ⟨_, _, rfl, rfl, _, rfl, ite2 (fun c => ?_) (fun c => ?_)⟩
    · have c2 : ¬ x.length ≤ 9 := fun z => by
        have : decide ((x.length : Int) ≤ 9) = true := decide_eq_true (by omega)
        rw [this] at c
        cases c
      exact no H (Same.refl H) (by simp [isIntB, c2])
    · have c2 : x.length ≤ 9 := by
        cases e : decide ((x.length : Int) ≤ 9) with
        | true => have := of_decide_eq_true e; omega
        | false => rw [e] at c; exact absurd rfl c
      cases hl : x.cps.toList with
      | nil => rw [hl] at el; simp at el; omega
      | cons ch r =>
        refine ⟨_, rfl, x, rfl, lcp_str (x := x) (F := H) (by omega) (Same.refl H) (fun i y _ => ∃ c, x.cps[i]? = some c ∧ y = .bl (decide (c ∈ digits.cps.toList))) (fun _ _ _ _ _ h => h) (fun i c F' H' hc ef k hk => ?_) (fun D ys F' H' nD ef hD hl2 hR => ?_)⟩
        · exact ⟨rfl, _, rfl, c, digits, rfl, rfl, hk _ _ _ (Eff.refl ef.sub) ⟨c, hc, rfl⟩⟩
        · have ey : ys = (x.cps.toList.map fun c => decide (c ∈ digits.cps.toList)).map V.bl := by
            rw [List.map_map]
            refine list_of_at _ (by rw [hl2, el]) fun i y hi => ?_
            obtain ⟨c, h1, rfl⟩ := hR i y hi
            exact ⟨c, by rw [Array.getElem?_toList, h1], rfl⟩
          rw [ey] at hD
          refine ⟨D, _, rfl, SqL.of (ef.sub _ _ hD), _, rfl, ?_⟩
          have e1 : decide (1 ≤ x.length) = true := decide_eq_true (by omega)
          have e2 : decide (x.length ≤ 9) = true := decide_eq_true c2
          have e0 : (x.cps.toList.map fun c => decide (c ∈ digits.cps.toList)).all id = x.cps.toList.all fun c => decide (c ∈ digits.cps.toList) := by rw [List.all_map]; rfl
          rw [e0]
          refine ite2 (fun c => ?_) (fun c => ?_)
          · have c3 : (x.cps.toList.all fun c => decide (c ∈ digits.cps.toList)) = false := by simpa using c
            exact no H' ef.all (by rw [isIntB, c3, Bool.and_false, Bool.false_and])
          · have c3 : (x.cps.toList.all fun c => decide (c ∈ digits.cps.toList)) = true := by
              cases e : (x.cps.toList.all fun c => decide (c ∈ digits.cps.toList)) with
              | true => rfl
              | false => rw [e] at c; exact absurd rfl c
            have z := q H' ef.all
            refine ⟨_, rfl, rfl, _, rfl, ite2 (fun c => ?_) (fun c => ?_)⟩
            · have c4 : x = "0" := V.str.inj (of_decide_eq_true c)
              have e : isIntB x = true := by rw [c4]; decide +kernel
              rw [e] at z
              exact z
            · have c4 : ¬ x = "0" := fun h => c (decide_eq_true (by rw [h]))
              refine ⟨_, rfl, x, 0, ch, rfl, rfl, hz, (by rw [hl]; exact at0), rfl, ?_⟩
              have e : isIntB x = !decide (V.str ⟨#[ch]⟩ = V.str "0") := by
                have e5 : decide (x = "0") = false := decide_eq_false c4
                have e6 : decide (V.str ⟨#[ch]⟩ = V.str "0") = decide (ch = 48) := by
                  by_cases h : ch = 48
                  · subst h; rfl
                  · rw [decide_eq_false h]
                    refine decide_eq_false fun z => h ?_
                    have z1 : (⟨#[ch]⟩ : Str) = "0" := V.str.inj z
                    have z2 : (#[ch] : Array Nat) = #[48] := congrArg PySem.Str.cps z1
                    simpa using z2
                rw [e6]
                rw [hl] at c3
                simp only [isIntB, e1, e2, e5, hl, c3, Bool.true_and, Bool.false_or]
              rw [e] at z
              exact z
  · have c1 : ¬ 1 ≤ x.length := fun z => c (decide_eq_true (by omega))
    exact ⟨_, rfl, iteT (no H (Same.refl H) (by simp [isIntB, c1]))⟩
/-! ### has_sort, parsed -/
def hasSortB (w s : Str) : Bool := if s = "integer" then isIntB w else if s = "order" then decide (w = "big") || decide (w = "little") else (decide (s = "use") && isIntB w) || isNameB w
def spHasSort : Sp := fun vs H Q _ => ∃ x s : Str, vs = [.str x, .str s] ∧ x.length ≤ 1000 ∧ ∀ H', Same H H' → Q (.bl (hasSortB x s)) H'
abbrev s_has_sort : Stmt := top 40
abbrev N_has_sort : List Str := ["word", "sort"]
theorem sc_has_sort : FnScope N_has_sort ["word", "sort"] (defScope s_has_sort) := ⟨rfl, rfl, rfl, by decide +kernel, rfl, by decide +kernel, by decide +kernel⟩
theorem b_has_sort (kV doc pm : Value) (an : Option Addr) (cdv ct : Value) (us : List Value) (hl : us.length = (["word", "sort"] : List Str).length) : bindArgs (PySem.W.fnOf "has_sort" "has_sort" (defArgs s_has_sort) (defBody s_has_sort) (defScope s_has_sort) .none kV doc pm an cdv ct) ⟨us, []⟩ = pure ((["word", "sort"] : List Str).zip us) := match us, hl with | [_, _], _ => rfl
theorem ok_has_sort (F : Fun K "has_sort" "has_sort" s_has_sort f fd) (T : Tx w K mg) (F_is_integer : Fc P w K mg base 1 "is_integer" spIsInteger) (F_is_name : Fc P w K mg base 1 "is_name" spIsName) : FnR P w K mg base CX0 2 f spHasSort := by
  refine raw_of F sc_has_sort b_has_sort (fun vs H Q E h => by obtain ⟨x, s, rfl, _⟩ := h; rfl) (fun cdv A outer s H vs Q E hr h => ?_)
  obtain ⟨x, so, rfl, hx, q⟩ := h
  refine ⟨_, (pss_cons (ps_if (pt_cmpR op_eq (pv 1) pe_str (nomark _))
      (pss_one (ps_ret (pe_cl F_is_integer (hr.mono (by omega)) (pa_cons (pv 0) pa_nil))))
      pss_nil)
    (pss_cons (ps_if (pt_cmpR op_eq (pv 1) pe_str (nomark _))
      (pss_one (ps_ret (pe_cmpR op_in_seq (pv 0) (pe_gref T.g_ORDERS) (by rfl))))
      pss_nil)
    (pss_cons (ps_if (PW.pt (pw_and (pt_cmpR op_eq (pv 1) pe_str (nomark _)) (pw_and1 (pt_val (pe_cl F_is_integer (hr.mono (by omega)) (pa_cons (pv 0) pa_nil))))))
      (pss_one (ps_ret pe_bl))
      pss_nil)
    (pss_one (ps_ret (pe_cl F_is_name (hr.mono (by omega)) (pa_cons (pv 0) pa_nil))))))), ?_⟩
  have dec : ∀ z : Str, decide (V.str so = V.str z) = decide (so = z) := fun z => by
    by_cases h : so = z
    · rw [h]; simp
    · rw [decide_eq_false h]; exact decide_eq_false fun y => h (V.str.inj y)
  refine ⟨_, rfl, rfl, _, rfl, ite2 (fun c => ?_) (fun c => ?_)⟩
  · have e : so = "integer" := V.str.inj (of_decide_eq_true c)
    refine ⟨_, rfl, x, rfl, hx, fun H' s => ?_⟩
    have z := q H' s
    rw [hasSortB, if_pos e] at z
    exact z
  · have e1 : ¬ so = "integer" := fun z => c (decide_eq_true (by rw [z]))
    refine ⟨_, rfl, rfl, _, rfl, ite2 (fun c => ?_) (fun c => ?_)⟩
    · have e : so = "order" := V.str.inj (of_decide_eq_true c)
      refine ⟨_, rfl, He.ga K "ORDERS", _, rfl, .inr (T.tO H), rfl, rfl, ?_⟩
      have z := q H (Same.refl H)
      rw [hasSortB, if_neg e1, if_pos e] at z
      have e2 : inV (V.str x) [.str "big", .str "little"] = (decide (x = "big") || decide (x = "little")) := by
        simp only [inV, List.any_cons, List.any_nil, eqV, Bool.or_false]
        by_cases h1 : x = "big"
        · subst h1; decide +kernel
        · by_cases h2 : x = "little"
          · subst h2; decide +kernel
          · have g1 : (("big" : Str) == x) = false := by simpa using fun z => h1 z.symm
            have g2 : (("little" : Str) == x) = false := by simpa using fun z => h2 z.symm
            rw [g1, g2, decide_eq_false h1, decide_eq_false h2]
      rw [← e2] at z
      exact z
    · have e2 : ¬ so = "order" := fun z => c (decide_eq_true (by rw [z]))
      have fin : ∀ H', Same H H' → (decide (so = "use") && isIntB x) = false → Q (.bl (isNameB x)) H' := fun H' s e => by
        have z := q H' s
        rw [hasSortB, if_neg e1, if_neg e2, e, Bool.false_or] at z
        exact z
      refine ⟨_, rfl, rfl, _, rfl, ite2 (fun c => ?_) (fun c => ?_)⟩
      · have e3 : so = "use" := V.str.inj (of_decide_eq_true c)
        refine ⟨_, rfl, x, rfl, hx, fun H' s => ⟨_, rfl, ite2 (fun c => ?_) (fun c => ?_)⟩⟩
        · have z := q H' s
          rw [hasSortB, if_neg e1, if_neg e2, c, decide_eq_true e3, Bool.true_and, Bool.true_or] at z
          exact z
        · exact ⟨_, rfl, x, rfl, hx, fun H'' s' => fin H'' (s.trans s') (by rw [Bool.eq_false_iff.mpr c, Bool.and_false])⟩
      · have e3 : ¬ so = "use" := fun z => c (decide_eq_true (by rw [z]))
        exact iteF ⟨_, rfl, x, rfl, hx, fun H' s => fin H' s (by rw [decide_eq_false e3, Bool.false_and])⟩
def parsedV (x : Str) : V := if isIntB x = true then .int ((PySem.intText? x).getD 0) else .str x
def spParsed : Sp := fun vs H Q _ => ∃ x : Str, vs = [.str x] ∧ x.length ≤ 640 ∧ (isIntB x = true → ∃ n, PySem.intText? x = some n) ∧ ∀ H', Same H H' → Q (parsedV x) H'
abbrev s_parsed : Stmt := top 41
abbrev N_parsed : List Str := ["word"]
theorem sc_parsed : FnScope N_parsed ["word"] (defScope s_parsed) := ⟨rfl, rfl, rfl, by decide +kernel, rfl, by decide +kernel, by decide +kernel⟩
theorem b_parsed (kV doc pm : Value) (an : Option Addr) (cdv ct : Value) (us : List Value) (hl : us.length = (["word"] : List Str).length) : bindArgs (PySem.W.fnOf "parsed" "parsed" (defArgs s_parsed) (defBody s_parsed) (defScope s_parsed) .none kV doc pm an cdv ct) ⟨us, []⟩ = pure ((["word"] : List Str).zip us) := match us, hl with | [_], _ => rfl
theorem ok_parsed (F : Fun K "parsed" "parsed" s_parsed f fd) (T : Tx w K mg) (F_is_integer : Fc P w K mg base 1 "is_integer" spIsInteger) : FnR P w K mg base CX0 2 f spParsed := by
  refine raw_of F sc_parsed b_parsed (fun vs H Q E h => by obtain ⟨x, rfl, _⟩ := h; rfl) (fun cdv A outer s H vs Q E hr h => ?_)
  obtain ⟨x, rfl, hx, hn, q⟩ := h
  refine ⟨_, (pss_cons (ps_if (pt_val (pe_cl F_is_integer (hr.mono (by omega)) (pa_cons (pv 0) pa_nil)))
      (pss_one (ps_ret (pe_callTy call_int_str (by rfl) T.f_int (by decide +kernel) (pa_cons (pv 0) pa_nil))))
      pss_nil)
    (pss_one (ps_ret (pv 0)))), ?_⟩
  refine ⟨_, rfl, x, rfl, by omega, fun H' s => ⟨_, rfl, ite2 (fun c => ?_) (fun c => ?_)⟩⟩
  · obtain ⟨n, e⟩ := hn c
    have z := q H' s
    rw [parsedV, if_pos c, e] at z
    exact ⟨_, rfl, x, n, rfl, e, hx, z⟩
  · have z := q H' s
    rw [parsedV, if_neg c] at z
    exact ⟨_, rfl, z⟩
end
end K6
set_option Elab.async false
set_option linter.all false
set_option maxRecDepth 100000
set_option maxHeartbeats 4000000
namespace K6
open PySem PySem.Spec PyProof.Rows L2
/-! ### readings that come often -/
section
variable {K : PySem.W.Frag} {σ : L2.St} {H : Hp} {a : Addr} {i : Nat} {z lit : Str} {r : List V} {tA tB : TS} {D : Ends} {t1 t2 : TS}
theorem sq (h : t1 { D with nx := t2 D } σ H) : tSeq t1 t2 D σ H := h
/-- if item[0] == lit -/
theorem r_kY (hσ : σ[i]? = some (some (.ref a))) (h : SqT K H a (.str lit :: r)) (q : tA D σ H) : tIfS (tTest (tOp rEq (tOp (rIxT K) (tVar i) (tC (.int 0))) (tC (.str lit)))) tA tB D σ H :=
  ⟨_, hσ, a, _, _, _, rfl, rfl, h, at0, rfl, _, rfl, by rw [decide_eq_true rfl]; exact iteT q⟩
theorem r_kN (hσ : σ[i]? = some (some (.ref a))) (h : SqT K H a (.str z :: r)) (e : z ≠ lit) (q : tB D σ H) : tIfS (tTest (tOp rEq (tOp (rIxT K) (tVar i) (tC (.int 0))) (tC (.str lit)))) tA tB D σ H :=
  ⟨_, hσ, a, _, _, _, rfl, rfl, h, at0, rfl, _, rfl, by rw [decide_eq_false (fun y => e (V.str.inj y))]; exact iteF q⟩
/-- if item[0] in (l1, l2, ..): the tuple is made on the way -/
theorem inV_str (z : Str) (ls : List Str) : inV (.str z) (ls.map V.str) = decide (z ∈ ls) := by
  induction ls with
  | nil => rfl
  | cons l ls ih =>
    have e : inV (.str z) ((l :: ls).map V.str) = ((l == z) || inV (.str z) (ls.map V.str)) := rfl
    rw [e, ih]
    by_cases h : l = z
    · subst h; simp
    · have g : (l == z) = false := by simpa using h
      rw [g, Bool.false_or]
      by_cases hm : z ∈ ls
      · rw [decide_eq_true hm, decide_eq_true (List.mem_cons_of_mem _ hm)]
      · rw [decide_eq_false hm]
        exact (decide_eq_false fun y => (List.mem_cons.mp y).elim (fun q => h q.symm) hm).symm
theorem flat_str (ls : List Str) : (ls.map V.str).all flatV = true := by
  rw [List.all_map, List.all_eq_true]
  intro x _
  rfl
end
theorem pk_rep (p : Plain) : p.kind ≠ "repeat" := by cases p <;> (dsimp only [Plain.kind]; decide +kernel)
theorem pk_eit (p : Plain) : p.kind ≠ "either" := by cases p <;> (dsimp only [Plain.kind]; decide +kernel)
theorem pk_swi (p : Plain) : p.kind ≠ "switch" := by cases p <;> (dsimp only [Plain.kind]; decide +kernel)
theorem es1 : ("either" : Str) ≠ "repeat" := by decide +kernel
theorem es2 : ("switch" : Str) ≠ "repeat" := by decide +kernel
theorem es3 : ("switch" : Str) ≠ "either" := by decide +kernel
section
variable {P : Program} {w : World} {K : PySem.W.Frag} {mg : Str → Option Value} {base : Heap} {f : Addr} {fd : FuncData}
theorem eff_sqT {M : List Addr} {F H F' H' : Hp} {a : Addr} {xs : List V} (e : Eff M F H F' H') (h : F a = some (.tup xs)) : SqT K H' a xs := SqT.of (e.sub _ _ (e.same _ _ h))
/-! ### blocks_of -/
def spBlocks : Sp := fun vs H Q _ => ∃ (z : Bool) (F : Hp) (d : Nat) (v : V) (x : Itm (d + 1)), vs = [v] ∧ Same F H ∧ IsIt z F (d + 1) v x ∧
  ∀ r ws F' H', Eff [] F H F' H' → F' r = some (.lst ws) → Paired (fun w b => IsIts z F' d w b) ws (ItF.blocks x) → ws.length ≤ 1000 → Q (.ref r) H'
abbrev s_blocks_of : Stmt := top 23
abbrev N_blocks_of : List Str := ["item", "_", "items"]
theorem sc_blocks_of : FnScope N_blocks_of ["item"] (defScope s_blocks_of) := ⟨rfl, rfl, rfl, by decide +kernel, rfl, by decide +kernel, by decide +kernel⟩
theorem b_blocks_of (kV doc pm : Value) (an : Option Addr) (cdv ct : Value) (us : List Value) (hl : us.length = (["item"] : List Str).length) : bindArgs (PySem.W.fnOf "blocks_of" "blocks_of" (defArgs s_blocks_of) (defBody s_blocks_of) (defScope s_blocks_of) .none kV doc pm an cdv ct) ⟨us, []⟩ = pure ((["item"] : List Str).zip us) := match us, hl with | [_], _ => rfl
theorem ok_blocks_of (F : Fun K "blocks_of" "blocks_of" s_blocks_of f fd) (T : Tx w K mg) : FnR P w K mg base CX0 1 f spBlocks := by
  refine raw_of F sc_blocks_of b_blocks_of (fun vs H Q E h => by obtain ⟨_, _, _, _, _, rfl, _⟩ := h; rfl) (fun cdv A outer s H vs Q E hr h => ?_)
  obtain ⟨z, F, d, v, x, rfl, sFH, hx, q⟩ := h
  refine ⟨_, (pss_cons (ps_if (pt_cmpR op_eq (pe_ix ix_tup (pv 0) pe_int (fun _ _ => rfl)) pe_str (nomark _))
      (pss_one (ps_ret (pe_lst (pa_cons (pe_ix ix_tup (pv 0) pe_int (fun _ _ => rfl)) pa_nil))))
      pss_nil)
    (pss_cons (ps_if (pt_cmpR op_eq (pe_ix ix_tup (pv 0) pe_int (fun _ _ => rfl)) pe_str (nomark _))
      (pss_one (ps_ret (pe_callTy call_list_of (by rfl) T.f_list (by decide +kernel) (pa_cons (pe_ix ix_tup (pv 0) pe_int (fun _ _ => rfl)) pa_nil))))
      pss_nil)
    (pss_cons (ps_if (pt_cmpR op_eq (pe_ix ix_tup (pv 0) pe_int (fun _ _ => rfl)) pe_str (nomark _))
      (pss_one (ps_ret (pe_lcs (pe_lc (own := [("_", 1), ("items", 2)]) (g := gTup _ 2 (gCons (gName 1) (gCons (gName 2) gNil))) (tt := tYes) rfl sc_blocks_of.nd (pi_seq (pe_ix ix_tup (pv 0) pe_int (fun _ _ => rfl))) (blkOk_by (own := [("_", 1), ("items", 2)]) (N := N_blocks_of) (sc := defScope s_blocks_of) (by decide +kernel)) (fun _ _ _ _ _ => (pg_tup rfl (pgs_cons (pg_name (i := 1) sc_blocks_of.nd rfl (by first | exact Or.inl rfl | exact Or.inr rfl)) (pgs_cons (pg_name (i := 2) sc_blocks_of.nd rfl (by first | exact Or.inl rfl | exact Or.inr rfl)) pgs_nil)))) (fun _ _ _ _ _ => pts_nil) (fun _ _ _ _ _ => (pv 2))))))
      pss_nil)
    (pss_one (ps_ret (pe_lst pa_nil)))))), ?_⟩
  obtain ⟨a, rfl, hx⟩ := hx
  match x, hx with
  | .pl p, hx =>
    have hx : F a = some (.tup p.vs) := hx
    rw [p.vs_eq] at hx
    have hT : SqT K H a _ := SqT.of (sFH _ _ hx)
    refine sq (r_kN rfl hT (pk_rep p) (sq (r_kN rfl hT (pk_eit p) (sq (r_kN rfl hT (pk_swi p) ?_)))))
    refine ⟨Nat.zero_le _, fun r nr => ?_⟩
    exact q r [] _ _ ((Eff.refl sFH).put nr) upd_same .nil (Nat.zero_le _)
  | .rep n u b, ⟨w', hx, hb⟩ =>
    have hT : SqT K H a _ := SqT.of (sFH _ _ hx)
    refine sq (r_kY rfl hT ?_)
    refine ⟨_, rfl, a, _, _, _, rfl, rfl, hT, at3, (by show 1 ≤ sizeLine; decide), fun r nr => ?_⟩
    have e := (Eff.refl sFH (M := [])).put nr (o := .lst [w'])
    exact q r [w'] _ _ e upd_same (.cons (isIts_mono e.same hb) .nil) (by show 1 ≤ 1000; decide)
  | .eit n bs, ⟨w', hx, hb⟩ =>
    have hT : SqT K H a _ := SqT.of (sFH _ _ hx)
    refine sq (r_kN rfl hT es1 (sq (r_kY rfl hT ?_)))
    obtain ⟨b, vs, rfl, hs, hp, hl, hz⟩ := isSeq_sq (K := K) sFH hb
    refine ⟨_, rfl, a, _, _, _, rfl, rfl, hT, at2, b, vs, rfl, hs, fun r nr => ?_⟩
    have e := (Eff.refl sFH (M := [])).put nr (o := .lst vs)
    exact q r vs _ _ e upd_same (paired_mono (fun _ _ h => isIts_mono e.same h) hp) (by omega)
  | .swi n t cs, ⟨w', hx, hb⟩ =>
    have hT : SqT K H a _ := SqT.of (sFH _ _ hx)
    refine sq (r_kN rfl hT es2 (sq (r_kN rfl hT es3 (sq (r_kY rfl hT ?_)))))
    obtain ⟨b, vs, rfl, hs, hp, hl, hz⟩ := isSeq_sq (K := K) sFH hb
    refine ⟨_, rfl, a, _, _, _, rfl, rfl, hT, at3, b, rfl, lcp hs (by omega) sFH (fun i y F' => ∃ c : Int × List (Itm d), cs[i]? = some c ∧ IsIts z F' d y c.2) (fun i y F' F'' s ⟨c, h1, h2⟩ => ⟨c, h1, isIts_mono s h2⟩) (fun i v F' H' hv ef k hk => ?_) (fun D ys F' H' nD ef hD hl2 hR => ?_)⟩
    · obtain ⟨c, hc, e, w2, rfl, h2, h3⟩ := paired_at hp hv
      refine ⟨e, _, rfl, eff_sqT ef h2, rfl, _, _, rfl, _, _, rfl, rfl, ?_⟩
      exact ⟨rfl, _, rfl, hk _ _ _ (Eff.refl ef.sub) ⟨c, hc, isIts_mono ef.same h3⟩⟩
    · refine q D ys F' H' ef hD (paired_of (by rw [hl2, hl]; exact (List.length_map _).symm) fun i y b' h1 h2 => ?_) (by omega)
      obtain ⟨c, h3, h4⟩ := hR i y h1
      have e : (cs.map (·.2))[i]? = some b' := h2
      rw [List.getElem?_map, h3] at e
      cases e
      exact h4
theorem fnR_no {k : Nat} {sp : Sp} (h : ∀ vs H Q E, ¬ sp vs H Q E) : FnR P w K mg base CX0 k f sp := fun A outer s H us vs Q E _ _ _ x => absurd x (h vs H Q E)
theorem fc_of {k : Nat} {x : Str} {sp : Sp} (hm : mg x = some (.ref f)) (hk : PySem.W.keepIn K (.ref f) = true) (F : FnR P w K mg base CX0 k f sp) : Fc P w K mg base k x sp := ⟨f, hm, hk, F⟩
/-! ### bounds -/
def spBounds : Sp := fun vs H Q _ => ∃ (u : Use) (nd : Addr) (F : Hp) (e : Env1) (lo hi : Int), vs = [u.v, .ref nd] ∧ Same F H ∧ IsEnv F H nd e ∧ bndO e u = some (lo, hi) ∧ ∀ t H', Same H H' → H' t = some (.tup [.int lo, .int hi]) → Q (.ref t) H'
abbrev s_bounds : Stmt := top 26
abbrev N_bounds : List Str := ["value", "numbers"]
theorem sc_bounds : FnScope N_bounds ["value", "numbers"] (defScope s_bounds) := ⟨rfl, rfl, rfl, by decide +kernel, rfl, by decide +kernel, by decide +kernel⟩
theorem b_bounds (kV doc pm : Value) (an : Option Addr) (cdv ct : Value) (us : List Value) (hl : us.length = (["value", "numbers"] : List Str).length) : bindArgs (PySem.W.fnOf "bounds" "bounds" (defArgs s_bounds) (defBody s_bounds) (defScope s_bounds) .none kV doc pm an cdv ct) ⟨us, []⟩ = pure ((["value", "numbers"] : List Str).zip us) := match us, hl with | [_, _], _ => rfl
theorem ok_bounds (F : Fun K "bounds" "bounds" s_bounds f fd) (T : Tx w K mg) : FnR P w K mg base CX0 1 f spBounds := by
  refine raw_of F sc_bounds b_bounds (fun vs H Q E h => by obtain ⟨_, _, _, _, _, _, rfl, _⟩ := h; rfl) (fun cdv A outer s H vs Q E hr h => ?_)
  obtain ⟨u, nd, F, e, lo, hi, rfl, sFH, he, hb, q⟩ := h
  refine ⟨_, (pss_cons (ps_if (pt_val (pe_callB call_isi (by rfl) T.f_isinstance (by decide +kernel) (pa_cons (pv 0) (pa_cons (pe_bltn (v := .ty "int") (by rfl) T.f_int boot_int rfl) pa_nil))))
      (pss_one (ps_ret (pe_tup (pa_cons (pv 0) (pa_cons (pv 0) pa_nil)))))
      pss_nil)
    (pss_one (ps_ret (pe_dget (hu_of hr) (pv 1) (pv 0) (fun _ _ => rfl))))), ?_⟩
  cases u with
  | lit n =>
    cases hb
    refine ⟨_, rfl, _, _, _, _, true, rfl, .ty "int", .base (.int _), kit_ty (a := "int") (b := "int") (by decide +kernel), _, rfl, iteT ?_⟩
    exact ⟨_, rfl, _, rfl, (by show 2 ≤ sizeLine; decide), fun t nt => q t _ (same_new nt _) upd_same⟩
  | nam x =>
    obtain ⟨t, h1, h2⟩ := isEnv_get he hb
    refine ⟨_, rfl, _, _, _, _, false, rfl, .ty "int", .base (.str x), kit_ty (a := "str") (b := "int") (by decide +kernel), _, rfl, iteF ?_⟩
    exact ⟨_, rfl, _, rfl, nd, .ref t, rfl, h1, q t H (Same.refl H) (sFH _ _ h2)⟩
/-! ### copied, copied_items -/
def spCopied (d : Nat) : Sp := fun vs H Q _ => ∃ (F : Hp) (v : V) (x : Itm d), vs = [v] ∧ Same F H ∧ IsIt false F d v x ∧ ∀ r F' H', Eff [] F H F' H' → IsIt true F' d r x → Q r H'
def spCopiedItems (d : Nat) : Sp := fun vs H Q _ => ∃ (F : Hp) (v : V) (l : List (Itm d)), vs = [v] ∧ Same F H ∧ IsIts false F d v l ∧ ∀ r F' H', Eff [] F H F' H' → IsIts true F' d r l → Q r H'
abbrev s_copied_items : Stmt := top 25
abbrev N_copied_items : List Str := ["items", "item"]
theorem sc_copied_items : FnScope N_copied_items ["items"] (defScope s_copied_items) := ⟨rfl, rfl, rfl, by decide +kernel, rfl, by decide +kernel, by decide +kernel⟩
theorem b_copied_items (kV doc pm : Value) (an : Option Addr) (cdv ct : Value) (us : List Value) (hl : us.length = (["items"] : List Str).length) : bindArgs (PySem.W.fnOf "copied_items" "copied_items" (defArgs s_copied_items) (defBody s_copied_items) (defScope s_copied_items) .none kV doc pm an cdv ct) ⟨us, []⟩ = pure ((["items"] : List Str).zip us) := match us, hl with | [_], _ => rfl
theorem ok_copied_items {d k : Nat} (F : Fun K "copied_items" "copied_items" s_copied_items f fd) (T : Tx w K mg) (F_copied : Fc P w K mg base k "copied" (spCopied d)) : FnR P w K mg base CX0 (k + 1) f (spCopiedItems d) := by
  refine raw_of F sc_copied_items b_copied_items (fun vs H Q E h => by obtain ⟨_, _, _, rfl, _⟩ := h; rfl) (fun cdv A outer s H vs Q E hr h => ?_)
  obtain ⟨F, v, l, rfl, sFH, hl, q⟩ := h
  refine ⟨_, (pss_one (ps_ret (pe_callTy call_tuple_of (by rfl) T.f_tuple (by decide +kernel) (pa_cons (pe_lcs (pe_lc (own := [("item", 1)]) (g := gName 1) (tt := tYes) rfl sc_copied_items.nd (pi_seq (pv 0)) (blkOk_by (own := [("item", 1)]) (N := N_copied_items) (sc := defScope s_copied_items) (by decide +kernel)) (fun _ _ _ _ _ => (pg_name (i := 1) sc_copied_items.nd rfl (by first | exact Or.inl rfl | exact Or.inr rfl))) (fun _ _ _ _ _ => pts_nil) (fun _ _ _ _ _ => (pe_cl F_copied (hr.mono (by omega)) (pa_cons (pv 1) pa_nil))))) pa_nil)))), ?_⟩
  obtain ⟨a, vs, rfl, hs, hp, hlen, hz⟩ := isSeq_sq (K := K) sFH hl
  refine ⟨_, rfl, a, rfl, lcp hs (by omega) sFH (fun i y F' => ∃ x, l[i]? = some x ∧ IsIt true F' d y x) (fun i y F' F'' s ⟨x, h1, h2⟩ => ⟨x, h1, isIt_mono s d _ _ h2⟩) (fun i v F' H' hv ef k hk => ?_) (fun D ys F' H' nD ef hD hl2 hR => ?_)⟩
  · obtain ⟨x, hx, hi⟩ := paired_at hp hv
    exact ⟨rfl, _, rfl, F', v, x, rfl, ef.sub, isIt_mono ef.same d _ _ hi, fun r F'' H'' e h => hk r F'' H'' e ⟨x, hx, h⟩⟩
  · refine ⟨D, ys, rfl, .inl ⟨SqL.of (ef.sub _ _ hD), fun p np => ?_⟩⟩
    have e := ef.put np (o := .tup ys)
    refine q (.ref p) _ _ e ⟨p, ys, rfl, upd_same, paired_of (by omega) fun i y x h1 h2 => ?_, hz⟩
    obtain ⟨x', h3, h4⟩ := hR i y h1
    rw [h2] at h3
    cases h3
    exact isIt_mono (same_new (none_of_same ef.sub np) _) d _ _ h4
abbrev s_copied : Stmt := top 24
abbrev N_copied : List Str := ["item", "items", "value"]
theorem sc_copied : FnScope N_copied ["item"] (defScope s_copied) := ⟨rfl, rfl, rfl, by decide +kernel, rfl, by decide +kernel, by decide +kernel⟩
theorem b_copied (kV doc pm : Value) (an : Option Addr) (cdv ct : Value) (us : List Value) (hl : us.length = (["item"] : List Str).length) : bindArgs (PySem.W.fnOf "copied" "copied" (defArgs s_copied) (defBody s_copied) (defScope s_copied) .none kV doc pm an cdv ct) ⟨us, []⟩ = pure ((["item"] : List Str).zip us) := match us, hl with | [_], _ => rfl
theorem ok_copied {d k : Nat} (F : Fun K "copied" "copied" s_copied f fd) (T : Tx w K mg) (F_copied_items : Fc P w K mg base k "copied_items" (spCopiedItems d)) : FnR P w K mg base CX0 (k + 1) f (spCopied (d + 1)) := by
  refine raw_of F sc_copied b_copied (fun vs H Q E h => by obtain ⟨_, _, _, rfl, _⟩ := h; rfl) (fun cdv A outer s H vs Q E hr h => ?_)
  obtain ⟨F, v, x, rfl, sFH, hx, q⟩ := h
  refine ⟨_, (pss_cons (ps_if (pt_cmpR op_eq (pe_ix ix_tup (pv 0) pe_int (fun _ _ => rfl)) pe_str (nomark _))
      (pss_one (ps_ret (pe_tup (pa_cons (pe_ix ix_tup (pv 0) pe_int (fun _ _ => rfl)) (pa_cons (pe_ix ix_tup (pv 0) pe_int (fun _ _ => rfl)) (pa_cons (pe_ix ix_tup (pv 0) pe_int (fun _ _ => rfl)) (pa_cons (pe_cl F_copied_items (hr.mono (by omega)) (pa_cons (pe_ix ix_tup (pv 0) pe_int (fun _ _ => rfl)) pa_nil)) pa_nil)))))))
      pss_nil)
    (pss_cons (ps_if (pt_cmpR op_eq (pe_ix ix_tup (pv 0) pe_int (fun _ _ => rfl)) pe_str (nomark _))
      (pss_one (ps_ret (pe_tup (pa_cons (pe_ix ix_tup (pv 0) pe_int (fun _ _ => rfl)) (pa_cons (pe_ix ix_tup (pv 0) pe_int (fun _ _ => rfl)) (pa_cons (pe_callTy call_tuple_of (by rfl) T.f_tuple (by decide +kernel) (pa_cons (pe_lcs (pe_lc (own := [("items", 1)]) (g := gName 1) (tt := tYes) rfl sc_copied.nd (pi_seq (pe_ix ix_tup (pv 0) pe_int (fun _ _ => rfl))) (blkOk_by (own := [("items", 1)]) (N := N_copied) (sc := defScope s_copied) (by decide +kernel)) (fun _ _ _ _ _ => (pg_name (i := 1) sc_copied.nd rfl (by first | exact Or.inl rfl | exact Or.inr rfl))) (fun _ _ _ _ _ => pts_nil) (fun _ _ _ _ _ => (pe_cl F_copied_items (hr.mono (by omega)) (pa_cons (pv 1) pa_nil))))) pa_nil)) pa_nil))))))
      pss_nil)
    (pss_cons (ps_if (pt_cmpR op_eq (pe_ix ix_tup (pv 0) pe_int (fun _ _ => rfl)) pe_str (nomark _))
      (pss_one (ps_ret (pe_tup (pa_cons (pe_ix ix_tup (pv 0) pe_int (fun _ _ => rfl)) (pa_cons (pe_ix ix_tup (pv 0) pe_int (fun _ _ => rfl)) (pa_cons (pe_ix ix_tup (pv 0) pe_int (fun _ _ => rfl)) (pa_cons (pe_callTy call_tuple_of (by rfl) T.f_tuple (by decide +kernel) (pa_cons (pe_lcs (pe_lc (own := [("value", 2), ("items", 1)]) (g := gTup _ 2 (gCons (gName 2) (gCons (gName 1) gNil))) (tt := tYes) rfl sc_copied.nd (pi_seq (pe_ix ix_tup (pv 0) pe_int (fun _ _ => rfl))) (blkOk_by (own := [("value", 2), ("items", 1)]) (N := N_copied) (sc := defScope s_copied) (by decide +kernel)) (fun _ _ _ _ _ => (pg_tup rfl (pgs_cons (pg_name (i := 2) sc_copied.nd rfl (by first | exact Or.inl rfl | exact Or.inr rfl)) (pgs_cons (pg_name (i := 1) sc_copied.nd rfl (by first | exact Or.inl rfl | exact Or.inr rfl)) pgs_nil)))) (fun _ _ _ _ _ => pts_nil) (fun _ _ _ _ _ => (pe_tup (pa_cons (pv 2) (pa_cons (pe_cl F_copied_items (hr.mono (by omega)) (pa_cons (pv 1) pa_nil)) pa_nil)))))) pa_nil)) pa_nil)))))))
      pss_nil)
    (pss_one (ps_ret (pe_callTy call_tupleT (by rfl) T.f_tuple (by decide +kernel) (pa_cons (pv 0) pa_nil))))))), ?_⟩
  obtain ⟨a, rfl, hx⟩ := hx
  match x, hx, q with
  | .pl p, hx, q =>
    have hx : F a = some (.tup p.vs) := hx
    have hx2 := hx
    rw [p.vs_eq] at hx
    have hT : SqT K H a _ := SqT.of (sFH _ _ hx)
    refine sq (r_kN rfl hT (pk_rep p) (sq (r_kN rfl hT (pk_eit p) (sq (r_kN rfl hT (pk_swi p) ?_)))))
    exact ⟨_, rfl, a, _, rfl, hT, q _ F H (Eff.refl sFH) ⟨a, rfl, hx2⟩⟩
  | .rep n u b, ⟨w', hx, hb⟩, q =>
    have hT : SqT K H a _ := SqT.of (sFH _ _ hx)
    refine sq (r_kY rfl hT ?_)
    refine ⟨_, rfl, a, _, _, _, rfl, rfl, hT, at0, _, rfl, a, _, _, _, rfl, rfl, hT, at1, _, rfl, a, _, _, _, rfl, rfl, hT, at2, _, rfl, a, _, _, _, rfl, rfl, hT, at3, ?_⟩
    refine ⟨F, _, b, rfl, sFH, hb, fun r F' H' e hr' => ⟨(by show 4 ≤ sizeLine; decide), fun p np => ?_⟩⟩
    have e2 := e.put np (o := .tup [.str "repeat", .str n, u.v, r])
    exact q _ _ _ e2 ⟨p, rfl, r, upd_same, isIts_mono (same_new (none_of_same e.sub np) _) hr'⟩
  | .eit n bs, ⟨w', hx, hb⟩, q =>
    have hT : SqT K H a _ := SqT.of (sFH _ _ hx)
    refine sq (r_kN rfl hT es1 (sq (r_kY rfl hT ?_)))
    obtain ⟨b, vs, rfl, hs, hp, hlen, hz⟩ := isSeq_sq (K := K) sFH hb
    refine ⟨_, rfl, a, _, _, _, rfl, rfl, hT, at0, _, rfl, a, _, _, _, rfl, rfl, hT, at1, _, rfl, a, _, _, _, rfl, rfl, hT, at2, b, rfl, ?_⟩
    refine lcp hs (by omega) sFH (fun i y F' => ∃ b, bs[i]? = some b ∧ IsIts true F' d y b) (fun i y F' F'' s ⟨x, h1, h2⟩ => ⟨x, h1, isIts_mono s h2⟩) (fun i v F' H' hv ef k hk => ?_) (fun D ys F' H' nD ef hD hl2 hR => ?_)
    · obtain ⟨b, hx, hi⟩ := paired_at hp hv
      exact ⟨rfl, _, rfl, F', v, b, rfl, ef.sub, isIts_mono ef.same hi, fun r F'' H'' e h => hk r F'' H'' e ⟨b, hx, h⟩⟩
    · refine ⟨D, ys, rfl, .inl ⟨SqL.of (ef.sub _ _ hD), fun p np => ⟨(by show 3 ≤ sizeLine; decide), fun p2 np2 => ?_⟩⟩⟩
      have e1 := ef.put np (o := .tup ys)
      have e2 := e1.put np2 (o := .tup [.str "either", .str n, .ref p])
      refine q _ _ _ e2 ⟨p2, rfl, .ref p, upd_same, p, ys, rfl, same_new (none_of_same e1.sub np2) _ _ _ upd_same, paired_of (by omega) fun i y x h1 h2 => ?_, hz⟩
      obtain ⟨x', h3, h4⟩ := hR i y h1
      rw [h2] at h3
      cases h3
      exact isIts_mono ((same_new (none_of_same ef.sub np) _).trans (same_new (none_of_same e1.sub np2) _)) h4
  | .swi n t cs, ⟨w', hx, hb⟩, q =>
    have hT : SqT K H a _ := SqT.of (sFH _ _ hx)
    refine sq (r_kN rfl hT es2 (sq (r_kN rfl hT es3 (sq (r_kY rfl hT ?_)))))
    obtain ⟨b, vs, rfl, hs, hp, hlen, hz⟩ := isSeq_sq (K := K) sFH hb
    refine ⟨_, rfl, a, _, _, _, rfl, rfl, hT, at0, _, rfl, a, _, _, _, rfl, rfl, hT, at1, _, rfl, a, _, _, _, rfl, rfl, hT, at2, _, rfl, a, _, _, _, rfl, rfl, hT, at3, b, rfl, ?_⟩
    refine lcp hs (by omega) sFH (fun i y F' => ∃ c : Int × List (Itm d), cs[i]? = some c ∧ ∃ e w', y = .ref e ∧ F' e = some (.tup [.int c.1, w']) ∧ IsIts true F' d w' c.2) (fun i y F' F'' s ⟨c, h1, e, w', h2, h3, h4⟩ => ⟨c, h1, e, w', h2, s _ _ h3, isIts_mono s h4⟩) (fun i v F' H' hv ef k hk => ?_) (fun D ys F' H' nD ef hD hl2 hR => ?_)
    · obtain ⟨c, hc, e, w2, rfl, h2, h3⟩ := paired_at hp hv
      refine ⟨e, _, rfl, eff_sqT ef h2, rfl, _, _, rfl, _, _, rfl, rfl, rfl, ?_⟩
      refine ⟨_, rfl, _, rfl, F', w2, c.2, rfl, ef.sub, isIts_mono ef.same h3, fun r F'' H'' e' h => ⟨(by show 2 ≤ sizeLine; decide), fun p np => ?_⟩⟩
      have e1 := e'.put np (o := .tup [.int c.1, r])
      exact hk _ _ _ e1 ⟨c, hc, p, r, rfl, upd_same, isIts_mono (same_new (none_of_same e'.sub np) _) h⟩
    · refine ⟨D, ys, rfl, .inl ⟨SqL.of (ef.sub _ _ hD), fun p np => ⟨(by show 4 ≤ sizeLine; decide), fun p2 np2 => ?_⟩⟩⟩
      have e1 := ef.put np (o := .tup ys)
      have e2 := e1.put np2 (o := .tup [.str "switch", .str n, .str t, .ref p])
      refine q _ _ _ e2 ⟨p2, rfl, .ref p, upd_same, p, ys, rfl, same_new (none_of_same e1.sub np2) _ _ _ upd_same, paired_of (by omega) fun i y x h1 h2 => ?_, hz⟩
      obtain ⟨x', h3, e, w', h4, h5, h6⟩ := hR i y h1
      rw [h2] at h3
      cases h3
      have s2 := (same_new (none_of_same ef.sub np) (.tup ys)).trans (same_new (none_of_same e1.sub np2) (.tup [.str "switch", .str n, .str t, .ref p]))
      exact ⟨e, w', h4, s2 _ _ h5, isIts_mono s2 h6⟩
theorem copied_all {fi : Addr} {fdi : FuncData} (F : Fun K "copied" "copied" s_copied f fd) (hm : mg "copied" = some (.ref f)) (Fi : Fun K "copied_items" "copied_items" s_copied_items fi fdi) (hmi : mg "copied_items" = some (.ref fi)) (T : Tx w K mg) :
    ∀ d : Nat, Fc P w K mg base (2 * d) "copied" (spCopied d) ∧ Fc P w K mg base (2 * d + 1) "copied_items" (spCopiedItems d)
  | 0 => by
    have h0 : Fc P w K mg base (2 * 0) "copied" (spCopied 0) := fc_of hm F.kp (fnR_no fun vs H Q E ⟨_, _, x, _⟩ => nomatch (show Empty from x))
    exact ⟨h0, fc_of hmi Fi.kp (ok_copied_items Fi T h0)⟩
  | d + 1 => by
    have ih := (copied_all F hm Fi hmi T d).2
    have h1 : Fc P w K mg base (2 * (d + 1)) "copied" (spCopied (d + 1)) := fc_of hm F.kp (ok_copied F T ih)
    exact ⟨h1, fc_of hmi Fi.kp (ok_copied_items Fi T h1)⟩
/-! ### least_of, greatest_of -/
def spLeast (d : Nat) : Sp := fun vs H Q _ => ∃ (z : Bool) (v : V) (nd : Addr) (x : Itm d) (e : Env1), vs = [v, .ref nd] ∧ IsIt z H d v x ∧ IsEnv H H nd e ∧ Closed e d x ∧ ∀ H', Same H H' → Q (.int (least e d x)) H'
def spLeastItems (d : Nat) : Sp := fun vs H Q _ => ∃ (z : Bool) (v : V) (nd : Addr) (l : List (Itm d)) (e : Env1), vs = [v, .ref nd] ∧ IsIts z H d v l ∧ IsEnv H H nd e ∧ (∀ x ∈ l, Closed e d x) ∧ ∀ H', Same H H' → Q (.int (l.map (least e d)).sum) H'
abbrev s_least_of_items : Stmt := top 28
abbrev N_least_of_items : List Str := ["items", "numbers", "item"]
theorem sc_least_of_items : FnScope N_least_of_items ["items", "numbers"] (defScope s_least_of_items) := ⟨rfl, rfl, rfl, by decide +kernel, rfl, by decide +kernel, by decide +kernel⟩
theorem b_least_of_items (kV doc pm : Value) (an : Option Addr) (cdv ct : Value) (us : List Value) (hl : us.length = (["items", "numbers"] : List Str).length) : bindArgs (PySem.W.fnOf "least_of_items" "least_of_items" (defArgs s_least_of_items) (defBody s_least_of_items) (defScope s_least_of_items) .none kV doc pm an cdv ct) ⟨us, []⟩ = pure ((["items", "numbers"] : List Str).zip us) := match us, hl with | [_, _], _ => rfl
theorem ok_least_of_items {d k : Nat} (F : Fun K "least_of_items" "least_of_items" s_least_of_items f fd) (T : Tx w K mg) (F_least_of : Fc P w K mg base k "least_of" (spLeast d)) : FnR P w K mg base CX0 (k + 1) f (spLeastItems d) := by
  refine raw_of F sc_least_of_items b_least_of_items (fun vs H Q E h => by obtain ⟨_, _, _, _, _, rfl, _⟩ := h; rfl) (fun cdv A outer s H vs Q E hr h => ?_)
  obtain ⟨z, v, nd, l, e, rfl, hl, he, hc, q⟩ := h
  refine ⟨_, (pss_one (ps_ret (pe_callB (cr_sum rfl) (by rfl) T.f_sum (by decide +kernel) (pa_cons (pe_lcs (pe_lc (own := [("item", 2)]) (g := gName 2) (tt := tYes) rfl sc_least_of_items.nd (pi_seq (pv 0)) (blkOk_by (own := [("item", 2)]) (N := N_least_of_items) (sc := defScope s_least_of_items) (by decide +kernel)) (fun _ _ _ _ _ => (pg_name (i := 2) sc_least_of_items.nd rfl (by first | exact Or.inl rfl | exact Or.inr rfl))) (fun _ _ _ _ _ => pts_nil) (fun _ _ _ _ _ => (pe_cl F_least_of (hr.mono (by omega)) (pa_cons (pv 2) (pa_cons (pv 1) pa_nil)))))) pa_nil)))), ?_⟩
  obtain ⟨a, vs, rfl, hs, hp, hlen, hz⟩ := isSeq_sq (K := K) (Same.refl H) hl
  refine ⟨_, rfl, a, rfl, lcp (F := H) hs (by omega) (Same.refl H) (fun i y _ => ∃ x, l[i]? = some x ∧ y = .int (least e d x)) (fun _ _ _ _ _ h => h) (fun i v F' H' hv ef k hk => ?_) (fun D ys F' H' nD ef hD hl2 hR => ?_)⟩
  · obtain ⟨x, hx, hi⟩ := paired_at hp hv
    exact ⟨rfl, _, rfl, _, rfl, z, v, nd, x, e, rfl, isIt_mono ef.all d _ _ hi, isEnv_same ef.all ef.all he, hc x (List.mem_of_getElem? hx), fun H'' s => hk _ F' _ (Eff.of_same ef.sub s) ⟨x, hx, rfl⟩⟩
  · have ey : ys = ((l.map (least e d))).map V.int := by
      rw [List.map_map]
      exact list_of_at _ (by omega) fun i y hi => hR i y hi
    rw [ey] at hD
    exact ⟨D, _, rfl, SqL.of (ef.sub _ _ hD), q H' ef.all⟩
theorem useC_bnd {e : Env1} {u : Use} (h : UseC e u) : bndO e u = some (bnd e u) ∧ 0 ≤ (bnd e u).1 ∧ (bnd e u).1 ≤ (bnd e u).2 ∧ (bnd e u).2 ≤ 64 := by
  obtain ⟨lo, hi, h1, h2, h3, h4⟩ := h
  have e1 : bnd e u = (lo, hi) := by
    unfold bnd
    rw [h1]
    rfl
  rw [e1]
  exact ⟨h1, h2, h3, h4⟩
theorem pk_num (p : Plain) (h : ∀ x s o l h', p ≠ .number x s o l h') : p.kind ≠ "number" := by
  cases p with
  | number x s o l h' => exact absurd rfl (h x s o l h')
  | _ => dsimp only [Plain.kind]; decide +kernel
theorem c64 {i : Int} (h1 : 0 ≤ i) (h2 : i ≤ 64) : -(2 ^ 64) < i ∧ i < 2 ^ 64 := by omega
/-- if item[0] in (..): the answer, the tuple made on the way -/
theorem r_in {σ : L2.St} {H : Hp} {a : Addr} {i : Nat} {z : Str} {r : List V} {tA tB : TS} {D : Ends} {ls : List Str} {t : TA} (ht : ∀ Q : List V → Hp → Prop, Q (ls.map V.str) H → t σ H Q) (hσ : σ[i]? = some (some (.ref a))) (h : SqT K H a (.str z :: r)) (hz : ls.length ≤ 1000)
    (q : ∀ H', Same H H' → if z ∈ ls then tA D σ H' else tB D σ H') : tIfS (tTest (tOp (rIn K false) (tOp (rIxT K) (tVar i) (tC (.int 0))) (tTup t))) tA tB D σ H := by
  refine ⟨_, hσ, a, _, _, _, rfl, rfl, h, at0, ht _ ⟨by rw [List.length_map]; exact small hz, fun p np => ⟨p, _, rfl, .inr (SqT.of upd_same), rfl, flat_str ls, _, rfl, ?_⟩⟩⟩
  have z1 := q _ (same_new np (.tup (ls.map V.str)))
  rw [inV_str]
  by_cases hm : z ∈ ls
  · rw [if_pos hm] at z1
    rw [decide_eq_true hm]
    exact iteT z1
  · rw [if_neg hm] at z1
    rw [decide_eq_false hm]
    exact iteF z1
theorem mem_es {z : Str} (h : z = "either" ∨ z = "switch") : z ∈ (["either", "switch"] : List Str) := by rcases h with rfl | rfl <;> simp
theorem not_es {z : Str} (h1 : z ≠ "either") (h2 : z ≠ "switch") : ¬ z ∈ (["either", "switch"] : List Str) := by
  intro h
  rcases List.mem_cons.mp h with h | h
  · exact h1 h
  · exact h2 (List.mem_singleton.mp h)
theorem closedA {e : Env1} {d : Nat} {x : Itm (d + 1)} (h : Closed e (d + 1) x) : ∀ b ∈ ItF.blocks x, ∀ y ∈ b, Closed e d y := by
  match x, h with
  | .pl p, _ => exact fun b hb => nomatch hb
  | .rep n u b, h => exact fun b' hb' => by rw [List.mem_singleton.mp hb']; exact h.2
  | .eit n bs, h => exact h.2
  | .swi n t cs, h =>
    intro b hb y hy
    obtain ⟨c, hc, rfl⟩ := List.mem_map.mp hb
    exact h.2 c hc y hy
/-- min, max over the blocks -/
theorem blk_least {σ : L2.St} {H : Hp} {a nd : Addr} {d : Nat} {e : Env1} {x : Itm (d + 1)} {z : Bool} {D : Ends} {sl : Nat} (hσ : σ = [some (.ref a), some (.ref nd), none]) (hx : IsIt z H (d + 1) (.ref a) x) (he : IsEnv H H nd e) (hc : Closed e (d + 1) x) (hne : ItF.blocks x ≠ [])
    (q : ∀ H', Same H H' → D.rt (.int (minL ((ItF.blocks x).map fun b => (b.map (least e d)).sum))) H') :
    tRet (tCB (rMin K) (tCons (tLcS (iSeq K (tCl spBlocks (tCons (tVar 0) tNil))) (gName 2) (tCl (spLeastItems d) (tCons (tVar 2) (tCons (tVar 1) tNil))) [2]) tNil)) D σ H := by
  subst hσ
  refine ⟨_, rfl, z, H, d, _, x, rfl, Same.refl H, hx, fun r ws F' H' ef hr' hp hl => ⟨r, rfl, lcp (.inl (SqL.of (ef.sub _ _ hr'))) (by omega) ef.sub (fun i y _ => ∃ b, (ItF.blocks x)[i]? = some b ∧ y = .int (b.map (least e d)).sum) (fun _ _ _ _ _ h => h) (fun i v F2 H2 hv ef2 k hk => ?_) (fun Dl ys F2 H2 nD ef2 hD hl2 hR => ?_)⟩⟩
  · obtain ⟨b, hb, hi⟩ := paired_at hp hv
    have s2 := ef.all.trans ef2.all
    exact ⟨rfl, _, rfl, _, rfl, z, v, nd, b, e, rfl, isIts_mono (ef2.same.trans ef2.sub) hi, isEnv_same s2 s2 he, closedA hc b (List.mem_of_getElem? hb), fun H'' s => hk _ F2 _ (Eff.of_same ef2.sub s) ⟨b, hb, rfl⟩⟩
  · have ey : ys = ((ItF.blocks x).map fun b => (b.map (least e d)).sum).map V.int := by
      rw [List.map_map]
      exact list_of_at _ (by rw [hl2]; exact paired_len hp) fun i y hi => hR i y hi
    rw [ey] at hD
    refine ⟨Dl, _, rfl, SqL.of (ef2.sub _ _ hD), by rw [List.length_map]; exact List.length_pos_iff.mpr hne, fun m hm hle => ?_⟩
    have z1 := q H2 (ef.all.trans ef2.all)
    rw [minL_eq hm hle] at z1
    exact z1
abbrev s_least_of : Stmt := top 27
abbrev N_least_of : List Str := ["item", "numbers", "items"]
theorem sc_least_of : FnScope N_least_of ["item", "numbers"] (defScope s_least_of) := ⟨rfl, rfl, rfl, by decide +kernel, rfl, by decide +kernel, by decide +kernel⟩
theorem b_least_of (kV doc pm : Value) (an : Option Addr) (cdv ct : Value) (us : List Value) (hl : us.length = (["item", "numbers"] : List Str).length) : bindArgs (PySem.W.fnOf "least_of" "least_of" (defArgs s_least_of) (defBody s_least_of) (defScope s_least_of) .none kV doc pm an cdv ct) ⟨us, []⟩ = pure ((["item", "numbers"] : List Str).zip us) := match us, hl with | [_, _], _ => rfl
theorem ok_least_of {d k : Nat} (F : Fun K "least_of" "least_of" s_least_of f fd) (T : Tx w K mg) (F_least_of_items : Fc P w K mg base k "least_of_items" (spLeastItems d)) (F_bounds : Fc P w K mg base 1 "bounds" spBounds) (F_blocks_of : Fc P w K mg base 1 "blocks_of" spBlocks) (hk1 : 1 ≤ k) : FnR P w K mg base CX0 (k + 1) f (spLeast (d + 1)) := by
  refine raw_of F sc_least_of b_least_of (fun vs H Q E h => by obtain ⟨_, _, _, _, _, rfl, _⟩ := h; rfl) (fun cdv A outer s H vs Q E hr h => ?_)
  obtain ⟨z, v, nd, x, e, rfl, hx, he, hc, q⟩ := h
  refine ⟨_, (pss_cons (ps_if (pt_cmpR op_eq (pe_ix ix_tup (pv 0) pe_int (fun _ _ => rfl)) pe_str (nomark _))
      (pss_one (ps_ret (pe_ix ix_tup (pv 0) pe_int (fun _ _ => rfl))))
      pss_nil)
    (pss_cons (ps_if (pt_cmpR op_eq (pe_ix ix_tup (pv 0) pe_int (fun _ _ => rfl)) pe_str (nomark _))
      (pss_one (ps_ret (pe_ix ix_tup (pe_cl F_bounds (hr.mono (by omega)) (pa_cons (pe_ix ix_tup (pv 0) pe_int (fun _ _ => rfl)) (pa_cons (pv 1) pa_nil))) pe_int (fun _ _ => rfl))))
      pss_nil)
    (pss_cons (ps_if (pt_cmpR op_eq (pe_ix ix_tup (pv 0) pe_int (fun _ _ => rfl)) pe_str (nomark _))
      (pss_one (ps_ret (pe_op op_mul (pe_ix ix_tup (pe_cl F_bounds (hr.mono (by omega)) (pa_cons (pe_ix ix_tup (pv 0) pe_int (fun _ _ => rfl)) (pa_cons (pv 1) pa_nil))) pe_int (fun _ _ => rfl)) (pe_cl F_least_of_items (hr.mono (by omega)) (pa_cons (pe_ix ix_tup (pv 0) pe_int (fun _ _ => rfl)) (pa_cons (pv 1) pa_nil))))))
      pss_nil)
    (pss_cons (ps_if (pt_cmpR op_in_seq (pe_ix ix_tup (pv 0) pe_int (fun _ _ => rfl)) (pe_tup (pa_cons pe_str (pa_cons pe_str pa_nil))) (by rfl))
      (pss_one (ps_ret (pe_callB (cr_min rfl) (by rfl) T.f_min (by decide +kernel) (pa_cons (pe_lcs (pe_lc (own := [("items", 2)]) (g := gName 2) (tt := tYes) rfl sc_least_of.nd (pi_seq (pe_cl F_blocks_of (hr.mono (by omega)) (pa_cons (pv 0) pa_nil))) (blkOk_by (own := [("items", 2)]) (N := N_least_of) (sc := defScope s_least_of) (by decide +kernel)) (fun _ _ _ _ _ => (pg_name (i := 2) sc_least_of.nd rfl (by first | exact Or.inl rfl | exact Or.inr rfl))) (fun _ _ _ _ _ => pts_nil) (fun _ _ _ _ _ => (pe_cl F_least_of_items (hr.mono (by omega)) (pa_cons (pv 2) (pa_cons (pv 1) pa_nil)))))) pa_nil))))
      pss_nil)
    (pss_one (ps_ret (pe_callTy call_int1 (by rfl) T.f_int (by decide +kernel) (pa_cons (pe_cmpR op_ne (pe_ix ix_tup (pv 0) pe_int (fun _ _ => rfl)) pe_str (nomark _)) pa_nil)))))))), ?_⟩
  have hx0 := hx
  obtain ⟨a, rfl, hx⟩ := hx
  match x, hx, hx0, hc, q with
  | .pl p, hx, hx0, hc, q =>
    have hx : H a = some (.tup p.vs) := hx
    have hx2 := hx
    rw [p.vs_eq] at hx
    have hT : SqT K H a _ := SqT.of hx
    cases p with
    | number y sz o l h =>
      refine sq (r_kY rfl hT ?_)
      exact ⟨_, rfl, a, _, _, _, rfl, rfl, hT, at2, q H (Same.refl H)⟩
    | bytes y u =>
      refine sq (r_kN rfl hT (by first | decide +kernel | (dsimp only [Plain.kind]; decide +kernel)) (sq (r_kY rfl hT ?_)))
      obtain ⟨h1, _⟩ := useC_bnd (show UseC e u from hc)
      refine ⟨_, rfl, a, _, _, _, rfl, rfl, hT, at2, _, rfl, u, nd, H, e, _, _, rfl, Same.refl H, he, h1, fun t H' s ht => ?_⟩
      exact ⟨t, _, _, _, rfl, rfl, SqT.of ht, at0, q H' s⟩
    | text y st m =>
      refine sq (r_kN rfl hT (by first | decide +kernel | (dsimp only [Plain.kind]; decide +kernel)) (sq (r_kN rfl hT (by first | decide +kernel | (dsimp only [Plain.kind]; decide +kernel)) (sq (r_kN rfl hT (by first | decide +kernel | (dsimp only [Plain.kind]; decide +kernel)) (sq (r_in (ls := ["either", "switch"]) (fun Q h => h) rfl hT (by decide) fun H' s => ?_)))))))
      rw [if_neg (not_es (by dsimp only [Plain.kind]; decide +kernel) (by dsimp only [Plain.kind]; decide +kernel))]
      exact ⟨_, rfl, a, _, _, _, rfl, rfl, sqT_same s hT, at0, rfl, .inr ⟨_, rfl, q H' s⟩⟩
    | check y m =>
      refine sq (r_kN rfl hT (by first | decide +kernel | (dsimp only [Plain.kind]; decide +kernel)) (sq (r_kN rfl hT (by first | decide +kernel | (dsimp only [Plain.kind]; decide +kernel)) (sq (r_kN rfl hT (by first | decide +kernel | (dsimp only [Plain.kind]; decide +kernel)) (sq (r_in (ls := ["either", "switch"]) (fun Q h => h) rfl hT (by decide) fun H' s => ?_)))))))
      rw [if_neg (not_es (by dsimp only [Plain.kind]; decide +kernel) (by dsimp only [Plain.kind]; decide +kernel))]
      exact ⟨_, rfl, a, _, _, _, rfl, rfl, sqT_same s hT, at0, rfl, .inr ⟨_, rfl, q H' s⟩⟩
    | pad y m b =>
      refine sq (r_kN rfl hT (by first | decide +kernel | (dsimp only [Plain.kind]; decide +kernel)) (sq (r_kN rfl hT (by first | decide +kernel | (dsimp only [Plain.kind]; decide +kernel)) (sq (r_kN rfl hT (by first | decide +kernel | (dsimp only [Plain.kind]; decide +kernel)) (sq (r_in (ls := ["either", "switch"]) (fun Q h => h) rfl hT (by decide) fun H' s => ?_)))))))
      rw [if_neg (not_es (by dsimp only [Plain.kind]; decide +kernel) (by dsimp only [Plain.kind]; decide +kernel))]
      exact ⟨_, rfl, a, _, _, _, rfl, rfl, sqT_same s hT, at0, rfl, .inr ⟨_, rfl, q H' s⟩⟩
  | .rep n u b, ⟨w', hx, hb⟩, hx0, hc, q =>
    have hT : SqT K H a _ := SqT.of hx
    obtain ⟨h1, h2, h3, h4⟩ := useC_bnd (show UseC e u from hc.1)
    refine sq (r_kN rfl hT (by first | decide +kernel | (dsimp only [Plain.kind]; decide +kernel)) (sq (r_kN rfl hT (by first | decide +kernel | (dsimp only [Plain.kind]; decide +kernel)) (sq (r_kY rfl hT ?_)))))
    refine ⟨_, rfl, a, _, _, _, rfl, rfl, hT, at2, _, rfl, u, nd, H, e, _, _, rfl, Same.refl H, he, h1, fun t H' s ht => ?_⟩
    refine ⟨t, _, _, _, rfl, rfl, SqT.of ht, at0, _, rfl, a, _, _, _, rfl, rfl, sqT_same s hT, at3, _, rfl, z, _, nd, b, e, rfl, isIts_mono s hb, isEnv_same s s he, hc.2, fun H'' s' => ?_⟩
    have h5 : (bnd e u).1 ≤ 64 := by omega
    have h6 : 0 ≤ (bnd e u).2 := by omega
    exact ⟨_, _, rfl, rfl, .inl (c64 (by first | exact h2 | exact h6) (by first | exact h5 | exact h4)), q H'' (s.trans s')⟩
  | .eit n bs, ⟨w', hx, hb⟩, hx0, hc, q =>
    have hT : SqT K H a _ := SqT.of hx
    refine sq (r_kN rfl hT (by first | decide +kernel | (dsimp only [Plain.kind]; decide +kernel)) (sq (r_kN rfl hT (by first | decide +kernel | (dsimp only [Plain.kind]; decide +kernel)) (sq (r_kN rfl hT (by first | decide +kernel | (dsimp only [Plain.kind]; decide +kernel)) (sq (r_in (ls := ["either", "switch"]) (fun Q h => h) rfl hT (by decide) fun H' s => ?_)))))))
    rw [if_pos (mem_es (.inl rfl))]
    exact blk_least (x := ItF.eit n bs) (sl := 0) rfl (isIt_mono s (d + 1) _ _ hx0) (isEnv_same s s he) hc hc.1 fun H'' s' => q H'' (s.trans s')
  | .swi n t cs, ⟨w', hx, hb⟩, hx0, hc, q =>
    have hT : SqT K H a _ := SqT.of hx
    refine sq (r_kN rfl hT (by first | decide +kernel | (dsimp only [Plain.kind]; decide +kernel)) (sq (r_kN rfl hT (by first | decide +kernel | (dsimp only [Plain.kind]; decide +kernel)) (sq (r_kN rfl hT (by first | decide +kernel | (dsimp only [Plain.kind]; decide +kernel)) (sq (r_in (ls := ["either", "switch"]) (fun Q h => h) rfl hT (by decide) fun H' s => ?_)))))))
    rw [if_pos (mem_es (.inr rfl))]
    refine blk_least (x := ItF.swi n t cs) (sl := 0) rfl (isIt_mono s (d + 1) _ _ hx0) (isEnv_same s s he) hc (fun h => hc.1 (List.map_eq_nil_iff.mp h)) fun H'' s' => ?_
    have z1 := q H'' (s.trans s')
    have e1 : (ItF.blocks (ItF.swi n t cs)).map (fun b => (b.map (least e d)).sum) = cs.map fun c => (c.2.map (least e d)).sum := List.map_map
    rw [e1]
    exact z1
theorem least_all {fi : Addr} {fdi : FuncData} (F : Fun K "least_of" "least_of" s_least_of f fd) (hm : mg "least_of" = some (.ref f)) (Fi : Fun K "least_of_items" "least_of_items" s_least_of_items fi fdi) (hmi : mg "least_of_items" = some (.ref fi))
    (F_bounds : Fc P w K mg base 1 "bounds" spBounds) (F_blocks_of : Fc P w K mg base 1 "blocks_of" spBlocks) (T : Tx w K mg) :
    ∀ d : Nat, Fc P w K mg base (2 * d + 1) "least_of" (spLeast d) ∧ Fc P w K mg base (2 * d + 2) "least_of_items" (spLeastItems d)
  | 0 => by
    have h0 : Fc P w K mg base (2 * 0 + 1) "least_of" (spLeast 0) := fc_of hm F.kp (fnR_no fun vs H Q E ⟨_, _, _, x, _⟩ => nomatch (show Empty from x))
    exact ⟨h0, fc_of hmi Fi.kp (ok_least_of_items Fi T h0)⟩
  | d + 1 => by
    have ih := (least_all F hm Fi hmi F_bounds F_blocks_of T d).2
    have h1 : Fc P w K mg base (2 * (d + 1) + 1) "least_of" (spLeast (d + 1)) := fc_of hm F.kp (ok_least_of F T ih F_bounds F_blocks_of (by omega))
    exact ⟨h1, fc_of hmi Fi.kp (ok_least_of_items Fi T h1)⟩
def spGreat (d : Nat) : Sp := fun vs H Q _ => ∃ (z : Bool) (v : V) (nd : Addr) (x : Itm d) (e : Env1), vs = [v, .ref nd] ∧ IsIt z H d v x ∧ IsEnv H H nd e ∧ Closed e d x ∧ ∀ H', Same H H' → Q (.int (great e d x)) H'
def spGreatItems (d : Nat) : Sp := fun vs H Q _ => ∃ (z : Bool) (v : V) (nd : Addr) (l : List (Itm d)) (e : Env1), vs = [v, .ref nd] ∧ IsIts z H d v l ∧ IsEnv H H nd e ∧ (∀ x ∈ l, Closed e d x) ∧ ∀ H', Same H H' → Q (.int (l.map (great e d)).sum) H'
abbrev s_greatest_of_items : Stmt := top 30
abbrev N_greatest_of_items : List Str := ["items", "numbers", "item"]
theorem sc_greatest_of_items : FnScope N_greatest_of_items ["items", "numbers"] (defScope s_greatest_of_items) := ⟨rfl, rfl, rfl, by decide +kernel, rfl, by decide +kernel, by decide +kernel⟩
theorem b_greatest_of_items (kV doc pm : Value) (an : Option Addr) (cdv ct : Value) (us : List Value) (hl : us.length = (["items", "numbers"] : List Str).length) : bindArgs (PySem.W.fnOf "greatest_of_items" "greatest_of_items" (defArgs s_greatest_of_items) (defBody s_greatest_of_items) (defScope s_greatest_of_items) .none kV doc pm an cdv ct) ⟨us, []⟩ = pure ((["items", "numbers"] : List Str).zip us) := match us, hl with | [_, _], _ => rfl
theorem ok_greatest_of_items {d k : Nat} (F : Fun K "greatest_of_items" "greatest_of_items" s_greatest_of_items f fd) (T : Tx w K mg) (F_greatest_of : Fc P w K mg base k "greatest_of" (spGreat d)) : FnR P w K mg base CX0 (k + 1) f (spGreatItems d) := by
  refine raw_of F sc_greatest_of_items b_greatest_of_items (fun vs H Q E h => by obtain ⟨_, _, _, _, _, rfl, _⟩ := h; rfl) (fun cdv A outer s H vs Q E hr h => ?_)
  obtain ⟨z, v, nd, l, e, rfl, hl, he, hc, q⟩ := h
  refine ⟨_, (pss_one (ps_ret (pe_callB (cr_sum rfl) (by rfl) T.f_sum (by decide +kernel) (pa_cons (pe_lcs (pe_lc (own := [("item", 2)]) (g := gName 2) (tt := tYes) rfl sc_greatest_of_items.nd (pi_seq (pv 0)) (blkOk_by (own := [("item", 2)]) (N := N_greatest_of_items) (sc := defScope s_greatest_of_items) (by decide +kernel)) (fun _ _ _ _ _ => (pg_name (i := 2) sc_greatest_of_items.nd rfl (by first | exact Or.inl rfl | exact Or.inr rfl))) (fun _ _ _ _ _ => pts_nil) (fun _ _ _ _ _ => (pe_cl F_greatest_of (hr.mono (by omega)) (pa_cons (pv 2) (pa_cons (pv 1) pa_nil)))))) pa_nil)))), ?_⟩
  obtain ⟨a, vs, rfl, hs, hp, hlen, hz⟩ := isSeq_sq (K := K) (Same.refl H) hl
  refine ⟨_, rfl, a, rfl, lcp (F := H) hs (by omega) (Same.refl H) (fun i y _ => ∃ x, l[i]? = some x ∧ y = .int (great e d x)) (fun _ _ _ _ _ h => h) (fun i v F' H' hv ef k hk => ?_) (fun D ys F' H' nD ef hD hl2 hR => ?_)⟩
  · obtain ⟨x, hx, hi⟩ := paired_at hp hv
    exact ⟨rfl, _, rfl, _, rfl, z, v, nd, x, e, rfl, isIt_mono ef.all d _ _ hi, isEnv_same ef.all ef.all he, hc x (List.mem_of_getElem? hx), fun H'' s => hk _ F' _ (Eff.of_same ef.sub s) ⟨x, hx, rfl⟩⟩
  · have ey : ys = ((l.map (great e d))).map V.int := by
      rw [List.map_map]
      exact list_of_at _ (by omega) fun i y hi => hR i y hi
    rw [ey] at hD
    exact ⟨D, _, rfl, SqL.of (ef.sub _ _ hD), q H' ef.all⟩
/-- min, max over the blocks -/
theorem blk_great {σ : L2.St} {H : Hp} {a nd : Addr} {d : Nat} {e : Env1} {x : Itm (d + 1)} {z : Bool} {D : Ends} {sl : Nat} (hσ : σ = [some (.ref a), some (.ref nd), none]) (hx : IsIt z H (d + 1) (.ref a) x) (he : IsEnv H H nd e) (hc : Closed e (d + 1) x) (hne : ItF.blocks x ≠ [])
    (q : ∀ H', Same H H' → D.rt (.int (maxL ((ItF.blocks x).map fun b => (b.map (great e d)).sum))) H') :
    tRet (tCB (rMax K) (tCons (tLcS (iSeq K (tCl spBlocks (tCons (tVar 0) tNil))) (gName 2) (tCl (spGreatItems d) (tCons (tVar 2) (tCons (tVar 1) tNil))) [2]) tNil)) D σ H := by
  subst hσ
  refine ⟨_, rfl, z, H, d, _, x, rfl, Same.refl H, hx, fun r ws F' H' ef hr' hp hl => ⟨r, rfl, lcp (.inl (SqL.of (ef.sub _ _ hr'))) (by omega) ef.sub (fun i y _ => ∃ b, (ItF.blocks x)[i]? = some b ∧ y = .int (b.map (great e d)).sum) (fun _ _ _ _ _ h => h) (fun i v F2 H2 hv ef2 k hk => ?_) (fun Dl ys F2 H2 nD ef2 hD hl2 hR => ?_)⟩⟩
  · obtain ⟨b, hb, hi⟩ := paired_at hp hv
    have s2 := ef.all.trans ef2.all
    exact ⟨rfl, _, rfl, _, rfl, z, v, nd, b, e, rfl, isIts_mono (ef2.same.trans ef2.sub) hi, isEnv_same s2 s2 he, closedA hc b (List.mem_of_getElem? hb), fun H'' s => hk _ F2 _ (Eff.of_same ef2.sub s) ⟨b, hb, rfl⟩⟩
  · have ey : ys = ((ItF.blocks x).map fun b => (b.map (great e d)).sum).map V.int := by
      rw [List.map_map]
      exact list_of_at _ (by rw [hl2]; exact paired_len hp) fun i y hi => hR i y hi
    rw [ey] at hD
    refine ⟨Dl, _, rfl, SqL.of (ef2.sub _ _ hD), by rw [List.length_map]; exact List.length_pos_iff.mpr hne, fun m hm hle => ?_⟩
    have z1 := q H2 (ef.all.trans ef2.all)
    rw [maxL_eq hm hle] at z1
    exact z1
abbrev s_greatest_of : Stmt := top 29
abbrev N_greatest_of : List Str := ["item", "numbers", "items"]
theorem sc_greatest_of : FnScope N_greatest_of ["item", "numbers"] (defScope s_greatest_of) := ⟨rfl, rfl, rfl, by decide +kernel, rfl, by decide +kernel, by decide +kernel⟩
theorem b_greatest_of (kV doc pm : Value) (an : Option Addr) (cdv ct : Value) (us : List Value) (hl : us.length = (["item", "numbers"] : List Str).length) : bindArgs (PySem.W.fnOf "greatest_of" "greatest_of" (defArgs s_greatest_of) (defBody s_greatest_of) (defScope s_greatest_of) .none kV doc pm an cdv ct) ⟨us, []⟩ = pure ((["item", "numbers"] : List Str).zip us) := match us, hl with | [_, _], _ => rfl
theorem ok_greatest_of {d k : Nat} (F : Fun K "greatest_of" "greatest_of" s_greatest_of f fd) (T : Tx w K mg) (F_greatest_of_items : Fc P w K mg base k "greatest_of_items" (spGreatItems d)) (F_bounds : Fc P w K mg base 1 "bounds" spBounds) (F_blocks_of : Fc P w K mg base 1 "blocks_of" spBlocks) (hk1 : 1 ≤ k) : FnR P w K mg base CX0 (k + 1) f (spGreat (d + 1)) := by
  refine raw_of F sc_greatest_of b_greatest_of (fun vs H Q E h => by obtain ⟨_, _, _, _, _, rfl, _⟩ := h; rfl) (fun cdv A outer s H vs Q E hr h => ?_)
  obtain ⟨z, v, nd, x, e, rfl, hx, he, hc, q⟩ := h
  refine ⟨_, (pss_cons (ps_if (pt_cmpR op_eq (pe_ix ix_tup (pv 0) pe_int (fun _ _ => rfl)) pe_str (nomark _))
      (pss_one (ps_ret (pe_ix ix_tup (pv 0) pe_int (fun _ _ => rfl))))
      pss_nil)
    (pss_cons (ps_if (pt_cmpR op_eq (pe_ix ix_tup (pv 0) pe_int (fun _ _ => rfl)) pe_str (nomark _))
      (pss_one (ps_ret (pe_ix ix_tup (pe_cl F_bounds (hr.mono (by omega)) (pa_cons (pe_ix ix_tup (pv 0) pe_int (fun _ _ => rfl)) (pa_cons (pv 1) pa_nil))) pe_int (fun _ _ => rfl))))
      pss_nil)
    (pss_cons (ps_if (pt_cmpR op_eq (pe_ix ix_tup (pv 0) pe_int (fun _ _ => rfl)) pe_str (nomark _))
      (pss_one (ps_ret (pe_op op_add (pe_ix ix_tup (pv 0) pe_int (fun _ _ => rfl)) pe_int)))
      pss_nil)
    (pss_cons (ps_if (pt_cmpR op_eq (pe_ix ix_tup (pv 0) pe_int (fun _ _ => rfl)) pe_str (nomark _))
      (pss_one (ps_ret (pe_op op_mul (pe_ix ix_tup (pe_cl F_bounds (hr.mono (by omega)) (pa_cons (pe_ix ix_tup (pv 0) pe_int (fun _ _ => rfl)) (pa_cons (pv 1) pa_nil))) pe_int (fun _ _ => rfl)) (pe_cl F_greatest_of_items (hr.mono (by omega)) (pa_cons (pe_ix ix_tup (pv 0) pe_int (fun _ _ => rfl)) (pa_cons (pv 1) pa_nil))))))
      pss_nil)
    (pss_cons (ps_if (pt_cmpR op_in_seq (pe_ix ix_tup (pv 0) pe_int (fun _ _ => rfl)) (pe_tup (pa_cons pe_str (pa_cons pe_str pa_nil))) (by rfl))
      (pss_one (ps_ret (pe_callB (cr_max rfl) (by rfl) T.f_max (by decide +kernel) (pa_cons (pe_lcs (pe_lc (own := [("items", 2)]) (g := gName 2) (tt := tYes) rfl sc_greatest_of.nd (pi_seq (pe_cl F_blocks_of (hr.mono (by omega)) (pa_cons (pv 0) pa_nil))) (blkOk_by (own := [("items", 2)]) (N := N_greatest_of) (sc := defScope s_greatest_of) (by decide +kernel)) (fun _ _ _ _ _ => (pg_name (i := 2) sc_greatest_of.nd rfl (by first | exact Or.inl rfl | exact Or.inr rfl))) (fun _ _ _ _ _ => pts_nil) (fun _ _ _ _ _ => (pe_cl F_greatest_of_items (hr.mono (by omega)) (pa_cons (pv 2) (pa_cons (pv 1) pa_nil)))))) pa_nil))))
      pss_nil)
    (pss_cons (ps_if (pt_cmpR op_eq (pe_ix ix_tup (pv 0) pe_int (fun _ _ => rfl)) pe_str (nomark _))
      (pss_one (ps_ret (pe_op op_sub (pe_ix ix_tup (pv 0) pe_int (fun _ _ => rfl)) pe_int)))
      pss_nil)
    (pss_one (ps_ret pe_int)))))))), ?_⟩
  have hx0 := hx
  obtain ⟨a, rfl, hx⟩ := hx
  match x, hx, hx0, hc, q with
  | .pl p, hx, hx0, hc, q =>
    have hx : H a = some (.tup p.vs) := hx
    have hx2 := hx
    rw [p.vs_eq] at hx
    have hT : SqT K H a _ := SqT.of hx
    cases p with
    | number y sz o l h =>
      refine sq (r_kY rfl hT ?_)
      exact ⟨_, rfl, a, _, _, _, rfl, rfl, hT, at2, q H (Same.refl H)⟩
    | bytes y u =>
      refine sq (r_kN rfl hT (by first | decide +kernel | (dsimp only [Plain.kind]; decide +kernel)) (sq (r_kY rfl hT ?_)))
      obtain ⟨h1, _⟩ := useC_bnd (show UseC e u from hc)
      refine ⟨_, rfl, a, _, _, _, rfl, rfl, hT, at2, _, rfl, u, nd, H, e, _, _, rfl, Same.refl H, he, h1, fun t H' s ht => ?_⟩
      exact ⟨t, _, _, _, rfl, rfl, SqT.of ht, at1, q H' s⟩
    | text y st m =>
      refine sq (r_kN rfl hT (by first | decide +kernel | (dsimp only [Plain.kind]; decide +kernel)) (sq (r_kN rfl hT (by first | decide +kernel | (dsimp only [Plain.kind]; decide +kernel)) (sq (r_kY rfl hT ?_)))))
      exact ⟨_, rfl, a, _, _, _, rfl, rfl, hT, at3, _, _, rfl, rfl, q H (Same.refl H)⟩
    | check y m =>
      refine sq (r_kN rfl hT (by first | decide +kernel | (dsimp only [Plain.kind]; decide +kernel)) (sq (r_kN rfl hT (by first | decide +kernel | (dsimp only [Plain.kind]; decide +kernel)) (sq (r_kN rfl hT (by first | decide +kernel | (dsimp only [Plain.kind]; decide +kernel)) (sq (r_kN rfl hT (by first | decide +kernel | (dsimp only [Plain.kind]; decide +kernel)) (sq (r_in (ls := ["either", "switch"]) (fun Q h => h) rfl hT (by decide) fun H' s => ?_)))))))))
      rw [if_neg (not_es (by dsimp only [Plain.kind]; decide +kernel) (by dsimp only [Plain.kind]; decide +kernel))]
      exact sq (r_kN rfl (sqT_same s hT) (by first | decide +kernel | (dsimp only [Plain.kind]; decide +kernel)) (q H' s))
    | pad y m b =>
      refine sq (r_kN rfl hT (by first | decide +kernel | (dsimp only [Plain.kind]; decide +kernel)) (sq (r_kN rfl hT (by first | decide +kernel | (dsimp only [Plain.kind]; decide +kernel)) (sq (r_kN rfl hT (by first | decide +kernel | (dsimp only [Plain.kind]; decide +kernel)) (sq (r_kN rfl hT (by first | decide +kernel | (dsimp only [Plain.kind]; decide +kernel)) (sq (r_in (ls := ["either", "switch"]) (fun Q h => h) rfl hT (by decide) fun H' s => ?_)))))))))
      rw [if_neg (not_es (by dsimp only [Plain.kind]; decide +kernel) (by dsimp only [Plain.kind]; decide +kernel))]
      exact sq (r_kY rfl (sqT_same s hT) ⟨_, rfl, a, _, _, _, rfl, rfl, sqT_same s hT, at2, _, _, rfl, rfl, q H' s⟩)
  | .rep n u b, ⟨w', hx, hb⟩, hx0, hc, q =>
    have hT : SqT K H a _ := SqT.of hx
    obtain ⟨h1, h2, h3, h4⟩ := useC_bnd (show UseC e u from hc.1)
    refine sq (r_kN rfl hT (by first | decide +kernel | (dsimp only [Plain.kind]; decide +kernel)) (sq (r_kN rfl hT (by first | decide +kernel | (dsimp only [Plain.kind]; decide +kernel)) (sq (r_kN rfl hT (by first | decide +kernel | (dsimp only [Plain.kind]; decide +kernel)) (sq (r_kY rfl hT ?_)))))))
    refine ⟨_, rfl, a, _, _, _, rfl, rfl, hT, at2, _, rfl, u, nd, H, e, _, _, rfl, Same.refl H, he, h1, fun t H' s ht => ?_⟩
    refine ⟨t, _, _, _, rfl, rfl, SqT.of ht, at1, _, rfl, a, _, _, _, rfl, rfl, sqT_same s hT, at3, _, rfl, z, _, nd, b, e, rfl, isIts_mono s hb, isEnv_same s s he, hc.2, fun H'' s' => ?_⟩
    have h5 : (bnd e u).1 ≤ 64 := by omega
    have h6 : 0 ≤ (bnd e u).2 := by omega
    exact ⟨_, _, rfl, rfl, .inl (c64 (by first | exact h2 | exact h6) (by first | exact h5 | exact h4)), q H'' (s.trans s')⟩
  | .eit n bs, ⟨w', hx, hb⟩, hx0, hc, q =>
    have hT : SqT K H a _ := SqT.of hx
    refine sq (r_kN rfl hT (by first | decide +kernel | (dsimp only [Plain.kind]; decide +kernel)) (sq (r_kN rfl hT (by first | decide +kernel | (dsimp only [Plain.kind]; decide +kernel)) (sq (r_kN rfl hT (by first | decide +kernel | (dsimp only [Plain.kind]; decide +kernel)) (sq (r_kN rfl hT (by first | decide +kernel | (dsimp only [Plain.kind]; decide +kernel)) (sq (r_in (ls := ["either", "switch"]) (fun Q h => h) rfl hT (by decide) fun H' s => ?_)))))))))
    rw [if_pos (mem_es (.inl rfl))]
    exact blk_great (x := ItF.eit n bs) (sl := 0) rfl (isIt_mono s (d + 1) _ _ hx0) (isEnv_same s s he) hc hc.1 fun H'' s' => q H'' (s.trans s')
  | .swi n t cs, ⟨w', hx, hb⟩, hx0, hc, q =>
    have hT : SqT K H a _ := SqT.of hx
    refine sq (r_kN rfl hT (by first | decide +kernel | (dsimp only [Plain.kind]; decide +kernel)) (sq (r_kN rfl hT (by first | decide +kernel | (dsimp only [Plain.kind]; decide +kernel)) (sq (r_kN rfl hT (by first | decide +kernel | (dsimp only [Plain.kind]; decide +kernel)) (sq (r_kN rfl hT (by first | decide +kernel | (dsimp only [Plain.kind]; decide +kernel)) (sq (r_in (ls := ["either", "switch"]) (fun Q h => h) rfl hT (by decide) fun H' s => ?_)))))))))
    rw [if_pos (mem_es (.inr rfl))]
    refine blk_great (x := ItF.swi n t cs) (sl := 0) rfl (isIt_mono s (d + 1) _ _ hx0) (isEnv_same s s he) hc (fun h => hc.1 (List.map_eq_nil_iff.mp h)) fun H'' s' => ?_
    have z1 := q H'' (s.trans s')
    have e1 : (ItF.blocks (ItF.swi n t cs)).map (fun b => (b.map (great e d)).sum) = cs.map fun c => (c.2.map (great e d)).sum := List.map_map
    rw [e1]
    exact z1
theorem greatest_all {fi : Addr} {fdi : FuncData} (F : Fun K "greatest_of" "greatest_of" s_greatest_of f fd) (hm : mg "greatest_of" = some (.ref f)) (Fi : Fun K "greatest_of_items" "greatest_of_items" s_greatest_of_items fi fdi) (hmi : mg "greatest_of_items" = some (.ref fi))
    (F_bounds : Fc P w K mg base 1 "bounds" spBounds) (F_blocks_of : Fc P w K mg base 1 "blocks_of" spBlocks) (T : Tx w K mg) :
    ∀ d : Nat, Fc P w K mg base (2 * d + 1) "greatest_of" (spGreat d) ∧ Fc P w K mg base (2 * d + 2) "greatest_of_items" (spGreatItems d)
  | 0 => by
    have h0 : Fc P w K mg base (2 * 0 + 1) "greatest_of" (spGreat 0) := fc_of hm F.kp (fnR_no fun vs H Q E ⟨_, _, _, x, _⟩ => nomatch (show Empty from x))
    exact ⟨h0, fc_of hmi Fi.kp (ok_greatest_of_items Fi T h0)⟩
  | d + 1 => by
    have ih := (greatest_all F hm Fi hmi F_bounds F_blocks_of T d).2
    have h1 : Fc P w K mg base (2 * (d + 1) + 1) "greatest_of" (spGreat (d + 1)) := fc_of hm F.kp (ok_greatest_of F T ih F_bounds F_blocks_of (by omega))
    exact ⟨h1, fc_of hmi Fi.kp (ok_greatest_of_items Fi T h1)⟩
end
end K6
set_option Elab.async false
set_option linter.all false
set_option maxRecDepth 100000
set_option maxHeartbeats 4000000
namespace K6
open PySem L2
/-! ### lists of pairs -/
theorem lookup_app {e r : Env1} {k : Str} {v : Int × Int} (h : e.lookup k = some v) : (e ++ r).lookup k = some v := by
  induction e with
  | nil => cases h
  | cons q e ih =>
    rw [List.cons_append, List.lookup_cons]
    rw [List.lookup_cons] at h
    split at h
    · exact h
    · exact ih h
theorem lookup_new {e r : Env1} {k : Str} (h : k ∉ e.map (·.1)) : (e ++ r).lookup k = r.lookup k := by
  induction e with
  | nil => rfl
  | cons q e ih =>
    rw [List.map_cons, List.mem_cons, not_or] at h
    rw [List.cons_append, List.lookup_cons]
    have hb : (k == q.1) = false := by simpa using h.1
    rw [hb]
    exact ih h.2
theorem lookup_mem {e : Env1} {k : Str} {v : Int × Int} (h : e.lookup k = some v) : k ∈ e.map (·.1) := by
  induction e with
  | nil => cases h
  | cons q e ih =>
    rw [List.lookup_cons] at h
    rw [List.map_cons]
    split at h
    · rename_i hb
      have : k = q.1 := by simpa using hb
      exact List.mem_cons.mpr (.inl this)
    · exact List.mem_cons_of_mem _ (ih h)
/-! ### what is known stays known -/
def Sub (e e' : Env1) : Prop := ∀ k v, e.lookup k = some v → e'.lookup k = some v
theorem Sub.refl (e : Env1) : Sub e e := fun _ _ h => h
theorem Sub.trans {a b c : Env1} (h : Sub a b) (g : Sub b c) : Sub a c := fun k v x => g k v (h k v x)
theorem sub_app (e r : Env1) : Sub e (e ++ r) := fun _ _ h => lookup_app h
theorem useC_mono {e e' : Env1} (s : Sub e e') {u : Use} (h : UseC e u) : UseC e' u := by
  obtain ⟨lo, hi, h1, h2⟩ := h
  cases u with
  | lit n => exact ⟨lo, hi, h1, h2⟩
  | nam x => exact ⟨lo, hi, s _ _ h1, h2⟩
theorem closed_mono {e e' : Env1} (s : Sub e e') : ∀ (d : Nat) (x : Itm d), Closed e d x → Closed e' d x
  | 0, x, _ => nomatch (show Empty from x)
  | d + 1, .pl p, h => by
    cases p with
    | bytes y u => exact useC_mono s (show UseC e u from h)
    | _ => trivial
  | d + 1, .rep n u b, h => ⟨useC_mono s h.1, fun y hy => closed_mono s d y (h.2 y hy)⟩
  | d + 1, .eit n bs, h => ⟨h.1, fun b hb y hy => closed_mono s d y (h.2 b hb y hy)⟩
  | d + 1, .swi n t cs, h => ⟨h.1, fun c hc y hy => closed_mono s d y (h.2 c hc y hy)⟩
/-! ### validity -/
theorem okL_mem {d : Nat} {ok : Env1 → Itm d → Prop} : ∀ {vis : Env1} {l : List (Itm d)}, OkL ok vis l → ∀ x ∈ l, ∃ v, ok v x
  | _, [], _, x, h => nomatch h
  | vis, y :: r, h, x, hx => by
    rcases List.mem_cons.mp hx with rfl | hx
    · exact ⟨vis, h.1⟩
    · exact okL_mem h.2 x hx
/-- the item is valid where some numbers are visible -/
def OkA (d : Nat) (x : Itm d) : Prop := ∃ vis, OkI d vis x
theorem okA_blocks {d : Nat} {x : Itm (d + 1)} (h : OkA (d + 1) x) : ∀ b ∈ ItF.blocks x, b.length ≤ 12 ∧ ∀ y ∈ b, OkA d y := by
  obtain ⟨vis, h⟩ := h
  match x, h with
  | .pl p, _ => exact fun b hb => nomatch hb
  | .rep n u b, h =>
    intro b' hb'
    rw [List.mem_singleton.mp hb']
    exact ⟨h.2.2.2.2.1, okL_mem h.2.2.2.2.2⟩
  | .eit n bs, h => exact fun b hb => ⟨(h.2.2.2.2.1 b hb).1, okL_mem (h.2.2.2.2.1 b hb).2⟩
  | .swi n t cs, h =>
    intro b hb
    obtain ⟨c, hc, rfl⟩ := List.mem_map.mp hb
    have q := h.2.2.2.2.2.2 c hc
    exact ⟨q.2.1, okL_mem q.2.2⟩
/-! ### least lengths -/
theorem sum_nonneg : ∀ {l : List Int}, (∀ x ∈ l, 0 ≤ x) → 0 ≤ l.sum
  | [], _ => Int.le_refl _
  | a :: r, h => by
    rw [List.sum_cons]
    have h1 := h a List.mem_cons_self
    have h2 := sum_nonneg (l := r) fun x hx => h x (List.mem_cons_of_mem _ hx)
    omega
theorem minL_nonneg {l : List Int} (h : ∀ x ∈ l, 0 ≤ x) : 0 ≤ minL l := by
  unfold minL
  cases e : l.min? with
  | none => exact Int.le_refl _
  | some m => exact h m (List.min?_eq_some_iff.mp e).1
theorem least_nonneg {e : Env1} : ∀ (d : Nat) (x : Itm d), OkA d x → Closed e d x → 0 ≤ least e d x
  | 0, x, _, _ => nomatch (show Empty from x)
  | d + 1, .pl p, ⟨vis, ho⟩, hc => by
    have ho : OkP vis p := ho.2
    cases p with
    | number y s o l h =>
      show 0 ≤ s
      rcases ho.1 with q | q <;> omega
    | bytes y u =>
      obtain ⟨lo, hi, h1, h2, _⟩ := (show UseC e u from hc)
      show 0 ≤ (bnd e u).1
      unfold bnd
      rw [h1]
      exact h2
    | text y s m => show (0 : Int) ≤ 1; decide
    | check y m => show (0 : Int) ≤ 1; decide
    | pad y m b => show (0 : Int) ≤ 0; decide
  | d + 1, .rep n u b, ho, hc => by
    have hb := (okA_blocks ho b (List.mem_singleton.mpr rfl)).2
    obtain ⟨lo, hi, h1, h2, _⟩ := hc.1
    have h3 : 0 ≤ (bnd e u).1 := by
      unfold bnd
      rw [h1]
      exact h2
    refine Int.mul_nonneg h3 (sum_nonneg fun x hx => ?_)
    obtain ⟨y, hy, rfl⟩ := List.mem_map.mp hx
    exact least_nonneg d y (hb y hy) (hc.2 y hy)
  | d + 1, .eit n bs, ho, hc => by
    refine minL_nonneg fun z hz => ?_
    obtain ⟨b, hb, rfl⟩ := List.mem_map.mp hz
    refine sum_nonneg fun x hx => ?_
    obtain ⟨y, hy, rfl⟩ := List.mem_map.mp hx
    exact least_nonneg d y ((okA_blocks ho b hb).2 y hy) (hc.2 b hb y hy)
  | d + 1, .swi n t cs, ho, hc => by
    refine minL_nonneg fun z hz => ?_
    obtain ⟨c, hc', rfl⟩ := List.mem_map.mp hz
    refine sum_nonneg fun x hx => ?_
    obtain ⟨y, hy, rfl⟩ := List.mem_map.mp hx
    exact least_nonneg d y ((okA_blocks ho c.2 (List.mem_map.mpr ⟨c, hc', rfl⟩)).2 y hy) (hc.2 c hc' y hy)
theorem begins_pos {e : Env1} : ∀ (d : Nat) (b : List (Itm d)), BeginsD d b → (∀ y ∈ b, OkA d y) → (∀ y ∈ b, Closed e d y) → 0 < (b.map (least e d)).sum
  | 0, _, h, _, _ => h.elim
  | d + 1, [], h, _, _ => h.elim
  | d + 1, .pl (.number y s o l h) :: r, _, ho, hc => by
    show 0 < s + (r.map (least e (d + 1))).sum
    have h2 : 0 ≤ (r.map (least e (d + 1))).sum := sum_nonneg fun x hx => by
      obtain ⟨z, hz, rfl⟩ := List.mem_map.mp hx
      exact least_nonneg (d + 1) z (ho z (List.mem_cons_of_mem _ hz)) (hc z (List.mem_cons_of_mem _ hz))
    obtain ⟨vis, h1⟩ := ho _ List.mem_cons_self
    have h1 : OkP vis (.number y s o l h) := h1.2
    have h3 : 1 ≤ s := by rcases h1.1 with q | q <;> omega
    omega
  | d + 1, .pl (.bytes _ _) :: r, h, _, _ => h.elim
  | d + 1, .pl (.text _ _ _) :: r, h, _, _ => h.elim
  | d + 1, .pl (.check _ _) :: r, h, _, _ => h.elim
  | d + 1, .pl (.pad _ _ _) :: r, h, _, _ => h.elim
  | d + 1, .rep _ _ _ :: r, h, _, _ => h.elim
  | d + 1, .eit _ _ :: r, h, _, _ => h.elim
  | d + 1, .swi _ _ _ :: r, h, _, _ => h.elim
theorem count_pos {l : List Int} (h : ∀ x ∈ l, 0 < x) : l.count 0 = 0 := by
  refine List.count_eq_zero.mpr fun hm => ?_
  have := h 0 hm
  omega
theorem count_rest {l : List Int} (h : ∀ x ∈ l.drop 1, 0 < x) : l.count 0 ≤ 1 := by
  cases l with
  | nil => exact Nat.zero_le _
  | cons a r =>
    have q : r.count 0 = 0 := count_pos h
    rw [List.count_cons, q]
    split <;> omega
/-! ### the own use of an item -/
theorem useC_of {vis e : Env1} (hv : ∀ q ∈ vis, e.lookup q.1 = some q.2) {u : Use} {most : Int} (hm : most ≤ 64) (h : UseOk vis most u) : UseC e u ∧ ∃ lo hi, bndO e u = some (lo, hi) ∧ 0 ≤ lo ∧ hi ≤ most := by
  cases u with
  | lit n => exact ⟨⟨n, n, rfl, h.1, Int.le_refl _, by have := h.2; omega⟩, n, n, rfl, h.1, h.2⟩
  | nam x =>
    obtain ⟨lo, hi, h1, h2, h3, h4⟩ := h
    have q : e.lookup x = some (lo, hi) := hv _ h1
    exact ⟨⟨lo, hi, q, h2, h3, by omega⟩, lo, hi, q, h2, h4⟩
end K6
set_option Elab.async false
set_option linter.all false
set_option maxRecDepth 100000
set_option maxHeartbeats 4000000
namespace K6
open PySem PySem.Spec PyProof.Rows L2
/-! ### answers that are known -/
theorem ckT {c : Bool} {A B : Prop} (hc : c = true) (q : A) : ∃ k, V.bl c = .bl k ∧ if k = true then A else B := ⟨c, rfl, by rw [if_pos hc]; exact q⟩
theorem ckF {c : Bool} {A B : Prop} (hc : c = false) (q : B) : ∃ k, V.bl c = .bl k ∧ if k = true then A else B := ⟨c, rfl, by rw [hc]; exact iteF q⟩
theorem lkY {k : Str} {v : V} {r : List (Str × V)} : List.lookup k ((k, v) :: r) = some v := by rw [List.lookup_cons, beq_self_eq_true]
theorem lkN {k k' : Str} {v : V} {r : List (Str × V)} (h : (k == k') = false) : List.lookup k ((k', v) :: r) = r.lookup k := by rw [List.lookup_cons, h]
theorem at4 {α : Type} {x y z u t : α} {r : List α} : atI (x :: y :: z :: u :: t :: r) 4 = some t := at_nat_ (j := 4) rfl rfl
theorem at5 {α : Type} {x y z u t s : α} {r : List α} : atI (x :: y :: z :: u :: t :: s :: r) 5 = some s := at_nat_ (j := 5) rfl rfl
/-! ### the checker's object -/
def ckf (nl nd : Addr) (c : Int) : List (Str × V) := [("names", .ref nl), ("numbers", .ref nd), ("checks", .int c)]
theorem ckf_names {nl nd : Addr} {c : Int} : (ckf nl nd c).lookup ("names" : Str) = some (.ref nl) := lkY
theorem ckf_numbers {nl nd : Addr} {c : Int} : (ckf nl nd c).lookup ("numbers" : Str) = some (.ref nd) := (lkN (by decide +kernel)).trans lkY
theorem ckf_checks {nl nd : Addr} {c : Int} : (ckf nl nd c).lookup ("checks" : Str) = some (.int c) := (lkN (by decide +kernel)).trans ((lkN (by decide +kernel)).trans lkY)
theorem ckf_no {nl nd : Addr} {c : Int} {m : Str} (h1 : (m == ("names" : Str)) = false) (h2 : (m == ("numbers" : Str)) = false) (h3 : (m == ("checks" : Str)) = false) : (ckf nl nd c).lookup m = none := (lkN h1).trans ((lkN h2).trans (lkN h3))
theorem ckf_require {nl nd : Addr} {c : Int} : (ckf nl nd c).lookup ("require" : Str) = none := ckf_no (by decide +kernel) (by decide +kernel) (by decide +kernel)
theorem ckf_items {nl nd : Addr} {c : Int} : (ckf nl nd c).lookup ("check_items" : Str) = none := ckf_no (by decide +kernel) (by decide +kernel) (by decide +kernel)
theorem ckf_plain {nl nd : Addr} {c : Int} : (ckf nl nd c).lookup ("check_plain" : Str) = none := ckf_no (by decide +kernel) (by decide +kernel) (by decide +kernel)
theorem ckf_uses {nl nd : Addr} {c : Int} : (ckf nl nd c).lookup ("check_uses" : Str) = none := ckf_no (by decide +kernel) (by decide +kernel) (by decide +kernel)
theorem ckf_lengths {nl nd : Addr} {c : Int} : (ckf nl nd c).lookup ("check_lengths" : Str) = none := ckf_no (by decide +kernel) (by decide +kernel) (by decide +kernel)
theorem put_self {f : Str} {v u : V} {r : List (Str × V)} : putF f v ((f, u) :: r) = (f, v) :: r := by
  show (if f = f then (f, v) :: r else _) = _
  rw [if_pos rfl]
theorem put_other {f g : Str} {v u : V} {r : List (Str × V)} (h : g ≠ f) : putF f v ((g, u) :: r) = (g, u) :: putF f v r := by
  show (if g = f then (g, v) :: r else _) = _
  rw [if_neg h]
theorem ckf_put {nl nd : Addr} {c c' : Int} : putF "checks" (.int c') (ckf nl nd c) = ckf nl nd c' := by
  unfold ckf
  rw [put_other (by decide +kernel), put_other (by decide +kernel), put_self]
abbrev EnvR (F : Hp) : List (Key × V) → Env1 → Prop := Paired (fun (kv : Key × V) (q : Str × Int × Int) => kv.1 = Sum.inr q.1 ∧ ∃ t, kv.2 = .ref t ∧ F t = some (.tup [.int q.2.1, .int q.2.2]))
theorem envR_none {F : Hp} {x : Str} : ∀ {kvs : List (Key × V)} {e : Env1}, EnvR F kvs e → x ∉ e.map (·.1) → valV kvs (Sum.inr x) = none
  | _, _, .nil, _ => valV_nil
  | _, _, .cons h r, hx => by
    rw [List.map_cons, List.mem_cons, not_or] at hx
    rw [valV_neg (fun z => hx.1 (by rw [h.1] at z; exact (Sum.inr.inj z).symm))]
    exact envR_none r hx.2
theorem envR_len {F : Hp} {kvs : List (Key × V)} {e : Env1} (h : EnvR F kvs e) : kvs.length = e.length := paired_len h
/-- the checker at self: its names, its numbers, its count of checks -/
structure Ck (C : Addr) (F H : Hp) (sf nl nd : Addr) (ns : List Str) (e : Env1) (c : Int) : Prop where
  sub : Same F H
  obj : ∃ dx, H sf = some (.ins C dx (ckf nl nd c))
  lst : H nl = some (.lst (ns.map V.str))
  dic : ∃ kvs, H nd = some (.dK kvs) ∧ EnvR F kvs e
  fs : F sf = none
  fl : F nl = none
  fd : F nd = none
section
variable {C : Addr} {F H F' H' : Hp} {self nl nd : Addr} {ns : List Str} {e : Env1} {c : Int}
theorem Ck.env (k : Ck C F H self nl nd ns e c) : IsEnv F H nd e := by
  obtain ⟨kvs, h1, h2⟩ := k.dic
  exact ⟨kvs, .inl h1, h2⟩
theorem Ck.n1 (k : Ck C F H self nl nd ns e c) : self ≠ nl := by
  obtain ⟨dx, h⟩ := k.obj
  exact ne_of h k.lst (by intro z; cases z)
theorem Ck.n2 (k : Ck C F H self nl nd ns e c) : self ≠ nd := by
  obtain ⟨dx, h⟩ := k.obj
  obtain ⟨kvs, h2, _⟩ := k.dic
  exact ne_of h h2 (by intro z; cases z)
theorem Ck.n3 (k : Ck C F H self nl nd ns e c) : nl ≠ nd := by
  obtain ⟨kvs, h2, _⟩ := k.dic
  exact ne_of k.lst h2 (by intro z; cases z)
/-- a call that leaves the checker alone -/
theorem Ck.pure (k : Ck C F H self nl nd ns e c) (f : Eff [] F H F' H') : Ck C F' H' self nl nd ns e c := by
  obtain ⟨dx, h⟩ := k.obj
  obtain ⟨kvs, h2, h3⟩ := k.dic
  exact ⟨f.sub, ⟨dx, f.all _ _ h⟩, f.all _ _ k.lst, ⟨kvs, f.all _ _ h2, paired_mono (fun _ _ ⟨h, t, a, b⟩ => ⟨h, t, a, f.same _ _ b⟩) h3⟩,
    f.fresh _ k.fs (by rw [h]; intro z; cases z), f.fresh _ k.fl (by rw [k.lst]; intro z; cases z), f.fresh _ k.fd (by rw [h2]; intro z; cases z)⟩
/-- an object that is no part of it changes -/
theorem Ck.other {p : Addr} {o : HO} (k : Ck C F H self nl nd ns e c) (h1 : p ≠ self) (h2 : p ≠ nl) (h3 : p ≠ nd) (hF : F p = none) : Ck C F (upd H p o) self nl nd ns e c := by
  obtain ⟨dx, h⟩ := k.obj
  obtain ⟨kvs, h4, h5⟩ := k.dic
  refine ⟨fun b u q => ?_, ⟨dx, by rw [upd_ne h1.symm]; exact h⟩, by rw [upd_ne h2.symm]; exact k.lst, ⟨kvs, by rw [upd_ne h3.symm]; exact h4, h5⟩, k.fs, k.fl, k.fd⟩
  have : b ≠ p := by
    intro z
    subst z
    rw [hF] at q
    cases q
  rw [upd_ne this]
  exact k.sub _ _ q
theorem sub_mut {m : Addr} {o : HO} (s : Same F H) (h : F m = none) : Same F (upd H m o) := fun b u q => by
  have : b ≠ m := by
    intro z
    subst z
    rw [h] at q
    cases q
  rw [upd_ne this]
  exact s _ _ q
theorem Ck.addName (k : Ck C F H self nl nd ns e c) (x : Str) : Ck C F (upd H nl (.lst (ns.map V.str ++ [.str x]))) self nl nd (ns ++ [x]) e c := by
  obtain ⟨dx, h⟩ := k.obj
  obtain ⟨kvs, h4, h5⟩ := k.dic
  exact ⟨sub_mut k.sub k.fl, ⟨dx, by rw [upd_ne k.n1]; exact h⟩, by rw [upd_same, List.map_append]; rfl, ⟨kvs, by rw [upd_ne k.n3.symm]; exact h4, h5⟩, k.fs, k.fl, k.fd⟩
theorem Ck.addChk (k : Ck C F H self nl nd ns e c) {dx : Addr} (c' : Int) (h0 : H self = some (.ins C dx (ckf nl nd c))) : Ck C F (upd H self (.ins C dx (ckf nl nd c'))) self nl nd ns e c' := by
  obtain ⟨kvs, h4, h5⟩ := k.dic
  exact ⟨sub_mut k.sub k.fs, ⟨dx, upd_same⟩, by rw [upd_ne k.n1.symm]; exact k.lst, ⟨kvs, by rw [upd_ne k.n2.symm]; exact h4, h5⟩, k.fs, k.fl, k.fd⟩
theorem Ck.addNum (k : Ck C F H self nl nd ns e c) {x : Str} {lo hi : Int} {t : Addr} {kvs : List (Key × V)} (h4 : H nd = some (.dK kvs)) (ht : F t = some (.tup [.int lo, .int hi])) (hx : x ∉ e.map (·.1)) :
    Ck C F (upd H nd (.dK (putK kvs (Sum.inr x) (.ref t)))) self nl nd ns (e ++ [(x, lo, hi)]) c := by
  obtain ⟨dx, h⟩ := k.obj
  obtain ⟨kvs', h6, h5⟩ := k.dic
  rw [h4] at h6
  cases h6
  refine ⟨sub_mut k.sub k.fd, ⟨dx, by rw [upd_ne k.n2]; exact h⟩, by rw [upd_ne k.n3]; exact k.lst, ⟨_, upd_same, ?_⟩, k.fs, k.fl, k.fd⟩
  rw [putK_new _ (envR_none h5 hx)]
  exact Paired.snoc h5 ⟨rfl, t, rfl, ht⟩
end
theorem Eff.more {M M' : List Addr} {F H F' H' : Hp} (e : Eff M F H F' H') (h : ∀ m ∈ M, m ∈ M') : Eff M' F H F' H' := ⟨e.same, e.sub, fun b o q hb => e.keep b o q fun z => hb (h b z), e.there, e.fresh⟩
abbrev CC (K : PySem.W.Frag) : Addr := He.ga K "ShapeCheck"
section
variable {P : Program} {w : World} {K : PySem.W.Frag} {mg : Str → Option Value} {base : Heap} {f : Addr} {fd : FuncData}
/-! ### ShapeCheck.__init__, require -/
def spCkInit (K : PySem.W.Frag) : Sp := fun vs H Q _ => ∃ (F : Hp) (self dx : Addr), vs = [.ref self] ∧ Same F H ∧ F self = none ∧ H self = some (.ins (CC K) dx []) ∧
  ∀ nl nd H', Eff [self] F H F H' → Ck (CC K) F H' self nl nd [] [] 0 → H nl = none → H nd = none → Q .non H'
abbrev s_ShapeCheck_init : Stmt := inClass (top 31) 0
abbrev N_ShapeCheck_init : List Str := ["self"]
theorem sc_ShapeCheck_init : FnScope N_ShapeCheck_init ["self"] (defScope s_ShapeCheck_init) := ⟨rfl, rfl, rfl, by decide +kernel, rfl, by decide +kernel, by decide +kernel⟩
theorem b_ShapeCheck_init (kV doc pm : Value) (an : Option Addr) (cdv ct : Value) (us : List Value) (hl : us.length = (["self"] : List Str).length) : bindArgs (PySem.W.fnOf "__init__" "ShapeCheck.__init__" (defArgs s_ShapeCheck_init) (defBody s_ShapeCheck_init) (defScope s_ShapeCheck_init) .none kV doc pm an cdv ct) ⟨us, []⟩ = pure ((["self"] : List Str).zip us) := match us, hl with | [_], _ => rfl
theorem ok_ck_init (F : Fun K "__init__" "ShapeCheck.__init__" s_ShapeCheck_init f fd) (T : Tx w K mg) : FnR P w K mg base CX0 1 f (spCkInit K) := by
  refine raw_of F sc_ShapeCheck_init b_ShapeCheck_init (fun vs H Q E h => by obtain ⟨_, _, _, rfl, _⟩ := h; rfl) (fun cdv A outer s H vs Q E hr h => ?_)
  obtain ⟨F, self, dx, rfl, sFH, hF, hs, q⟩ := h
  refine ⟨_, (pss_cons (ps_fld (pv 0) (pe_lst pa_nil) (by rfl))
    (pss_cons (ps_fld (pv 0) pe_dnewK (by rfl))
    (pss_one (ps_fld (pv 0) pe_int (by rfl))))), ?_⟩
  refine ⟨Nat.zero_le _, fun nl hl => ?_⟩
  have n1 : self ≠ nl := ne_of_none hs hl
  refine ⟨_, rfl, self, _, dx, [], rfl, (by rw [upd_ne n1]; exact hs), T.c_ShapeCheck, T.n_ShapeCheck_names, (by show 0 < 1000; decide), ?_⟩
  have e1 : Eff [self] F H F (upd (upd H nl (.lst [])) self (.ins (CC K) dx [("names", V.ref nl)])) := ((Eff.refl sFH).loc hl).wr hF (.inl (by simp))
  intro nd hnd
  have n2 : nd ≠ self := by
    intro z
    rw [z, upd_same] at hnd
    cases hnd
  have n3 : nd ≠ nl := by
    intro z
    rw [z, upd_ne n1.symm, upd_same] at hnd
    cases hnd
  have hd0 : H nd = none := by
    rw [upd_ne n2, upd_ne n3] at hnd
    exact hnd
  refine ⟨_, rfl, self, _, dx, _, rfl, Eq.trans (upd_ne n2.symm) upd_same, T.c_ShapeCheck, T.n_ShapeCheck_numbers, (by show 1 < 1000; decide), ?_⟩
  have e2 := (e1.loc hnd (o := .dK [])).wr hF (.inl (by simp)) (o := .ins (CC K) dx [("names", V.ref nl), ("numbers", V.ref nd)])
  have p1 : putF "numbers" (V.ref nd) ([("names", V.ref nl)] : List (Str × V)) = ([("names", V.ref nl), ("numbers", V.ref nd)] : List (Str × V)) := put_other (by decide +kernel)
  refine ⟨_, rfl, self, _, dx, _, rfl, upd_same, T.c_ShapeCheck, T.n_ShapeCheck_checks, (by rw [show putF "numbers" (V.ref nd) (putF "names" (V.ref nl) []) = _ from p1]; show 2 < 1000; decide), ?_⟩
  have p2 : putF "checks" (V.int 0) ([("names", V.ref nl), ("numbers", V.ref nd)] : List (Str × V)) = ckf nl nd 0 := (put_other (by decide +kernel)).trans (congrArg (fun z => (("names" : Str), V.ref nl) :: z) (put_other (by decide +kernel)))
  have e3 := e2.wr hF (.inl (by simp)) (o := .ins (CC K) dx (ckf nl nd 0))
  rw [upd_upd] at e3
  have eH : upd (upd (upd (upd (upd H nl (.lst [])) self (.ins (CC K) dx [("names", V.ref nl)])) nd (.dK [])) self (.ins (CC K) dx (putF "numbers" (V.ref nd) (putF "names" (V.ref nl) [])))) self (.ins (CC K) dx (putF "checks" (.int 0) (putF "numbers" (V.ref nd) (putF "names" (V.ref nl) [])))) =
      upd (upd (upd (upd H nl (.lst [])) self (.ins (CC K) dx [("names", V.ref nl)])) nd (.dK [])) self (.ins (CC K) dx (ckf nl nd 0)) := by
    rw [show putF "numbers" (V.ref nd) (putF "names" (V.ref nl) []) = _ from p1, p2, upd_upd]
  have fin := q nl nd _ e3 ⟨e3.sub, ⟨dx, upd_same⟩, by rw [upd_ne n1.symm, upd_ne n3.symm, upd_ne n1.symm, upd_same]; rfl, ⟨[], by rw [upd_ne n2, upd_same], .nil⟩, hF, sFH.free hl, sFH.free hd0⟩ hl hd0
  rw [← eH] at fin
  exact fin
def spRequire : Sp := fun vs H Q _ => ∃ v, vs = [v, .bl true] ∧ Q .non H
abbrev s_ShapeCheck_require : Stmt := inClass (top 31) 1
abbrev N_ShapeCheck_require : List Str := ["self", "holds"]
theorem sc_ShapeCheck_require : FnScope N_ShapeCheck_require ["self", "holds"] (defScope s_ShapeCheck_require) := ⟨rfl, rfl, rfl, by decide +kernel, rfl, by decide +kernel, by decide +kernel⟩
theorem b_ShapeCheck_require (kV doc pm : Value) (an : Option Addr) (cdv ct : Value) (us : List Value) (hl : us.length = (["self", "holds"] : List Str).length) : bindArgs (PySem.W.fnOf "require" "ShapeCheck.require" (defArgs s_ShapeCheck_require) (defBody s_ShapeCheck_require) (defScope s_ShapeCheck_require) .none kV doc pm an cdv ct) ⟨us, []⟩ = pure ((["self", "holds"] : List Str).zip us) := match us, hl with | [_, _], _ => rfl
theorem ok_require (F : Fun K "require" "ShapeCheck.require" s_ShapeCheck_require f fd) (T : Tx w K mg) : FnR P w K mg base CX0 1 f spRequire := by
  refine raw_of F sc_ShapeCheck_require b_ShapeCheck_require (fun vs H Q E h => by obtain ⟨_, rfl, _⟩ := h; rfl) (fun cdv A outer s H vs Q E hr h => ?_)
  obtain ⟨v, rfl, q⟩ := h
  refine ⟨_, (pss_one (ps_if (pt_not (pt_val (pv 1)))
      (pss_one ps_never)
      pss_nil)), ?_⟩
  exact ⟨_, rfl, _, rfl, iteF q⟩
theorem reqT {b : Bool} {x : V} {H : Hp} {Q : VK} {E : XK} (hb : b = true) (q : Q .non H) : spRequire [x, .bl b] H Q E := ⟨x, by rw [hb], q⟩
/-- self.require(e) -/
theorem r_req {C self dx : Addr} {fs : List (Str × V)} {σ : L2.St} {H : Hp} {i : Nat} {te : TE} {D : Ends} (hσ : σ[i]? = some (some (.ref self))) (ho : H self = some (.ins C dx fs)) (hl : fs.lookup ("require" : Str) = none)
    (h : te σ H fun v H1 => spRequire [.ref self, v] H1 (fun _ H2 => D.nx σ H2) E0) : tDrop (tMt C "require" spRequire (tVar i) (tCons te tNil)) D σ H := ⟨_, hσ, self, dx, fs, rfl, ho, hl, h⟩
/-! ### check_plain -/
def spPlain (K : PySem.W.Frag) : Sp := fun vs H Q _ => ∃ (F : Hp) (self nl nd : Addr) (ns : List Str) (e : Env1) (c : Int) (d : Nat) (v : V) (x : Itm (d + 1)) (vis : Env1), vs = [.ref self, v] ∧ Ck (CC K) F H self nl nd ns e c ∧ IsIt false F (d + 1) v x ∧ OkI (d + 1) vis x ∧
  (ItF.chk x = 1 → c = 0) ∧ ∀ F' H', Eff [self] F H F' H' → Ck (CC K) F' H' self nl nd ns e (c + ItF.chk x) → Q .non H'
/-- over enumerate of a list that stays -/
theorem for_enum {K : PySem.W.Frag} {a : Addr} {xs : List V} {g : TG} {tb : TS} {D : Ends} {σ : L2.St} {H : Hp} (Pv : Nat → L2.St → Hp → Prop) (h0 : Pv 0 σ H) (hl : ∀ i σ H, i ≤ xs.length → Pv i σ H → SqL K H a xs)
    (hs : ∀ (i : Nat) x σ H T, xs[i]? = some x → Pv i σ H → H T = none → g (.ref T) σ (upd H T (.tup [.int (i : Nat), x])) fun σ2 H2 => tb { D with nx := Pv (i + 1), ct := Pv (i + 1), bk := D.nx } σ2 H2) (hd : ∀ σ H, Pv xs.length σ H → D.nx σ H) :
    ∃ W : Nat → Nat → L2.St → Hp → Prop, (∃ m, W 0 m σ H) ∧ ∀ i m σ H, W i m σ H →
      ((Ite K a).stop i H ∧ D.nx σ H) ∨ ((Ite K a).go i H ∧ ∃ N : L2.St → Hp → Prop, (∀ σ' H', N σ' H' → ∃ m', m' < m ∧ W (i + 1) m' σ' H') ∧ ∀ x H', (Ite K a).yld i H x H' → g x σ H' fun σ2 H2 => tb { D with nx := N, ct := N, bk := D.nx } σ2 H2) := by
  refine ⟨fun i m σ H => i + m = xs.length ∧ Pv i σ H, ⟨xs.length, Nat.zero_add _, h0⟩, ?_⟩
  rintro i m σ H ⟨him, hp⟩
  have hq := hl i σ H (by omega) hp
  cases m with
  | zero =>
    have : i = xs.length := by omega
    subst this
    exact .inl ⟨⟨xs, hq, Nat.le_refl _⟩, hd σ H hp⟩
  | succ m =>
    have hi : i < xs.length := by omega
    refine .inr ⟨⟨xs, xs[i], hq, List.getElem?_eq_getElem hi⟩, Pv (i + 1), fun σ' H' h => ⟨m, Nat.lt_succ_self _, by omega, h⟩, ?_⟩
    rintro v H' ⟨T, x, rfl, hT, rfl, hx⟩
    exact hs i x σ H T (hx xs hq) hp hT
theorem take_not {α : Type} [DecidableEq α] {l : List α} (h : l.Nodup) {i : Nat} {x : α} (hx : l[i]? = some x) : x ∉ l.take i := by
  intro hm
  obtain ⟨j, hj, e⟩ := List.mem_iff_getElem.mp hm
  rw [List.length_take] at hj
  have e1 : l[j]? = some x := by
    rw [List.getElem_take] at e
    rw [List.getElem?_eq_getElem (by omega), e]
  have := nd_ix h e1 hx
  omega
theorem inV_int (z : Int) (ls : List Int) : inV (.int z) (ls.map V.int) = decide (z ∈ ls) := by
  induction ls with
  | nil => rfl
  | cons l ls ih =>
    have e : inV (.int z) ((l :: ls).map V.int) = ((l == z) || inV (.int z) (ls.map V.int)) := rfl
    rw [e, ih]
    by_cases h : l = z
    · subst h; simp
    · have g : (l == z) = false := by simpa using h
      rw [g, Bool.false_or]
      by_cases hm : z ∈ ls
      · rw [decide_eq_true hm, decide_eq_true (List.mem_cons_of_mem _ hm)]
      · rw [decide_eq_false hm]
        exact (decide_eq_false fun y => (List.mem_cons.mp y).elim (fun q => h q.symm) hm).symm
theorem flat_int (ls : List Int) : (ls.map V.int).all flatV = true := by
  rw [List.all_map, List.all_eq_true]
  intro x _
  rfl
theorem cut_take (xs : List V) (i : Nat) (h : i ≤ xs.length) : cutV xs none (some (i : Int)) = xs.take i := by
  unfold cutV
  rw [HT.sIx_none, HT.sIx_nat, List.drop_zero, Nat.sub_zero, Nat.min_eq_left h]
abbrev s_ShapeCheck_check_plain : Stmt := inClass (top 31) 3
abbrev N_ShapeCheck_check_plain : List Str := ["self", "item", "values", "number", "value", "_"]
theorem sc_ShapeCheck_check_plain : FnScope N_ShapeCheck_check_plain ["self", "item"] (defScope s_ShapeCheck_check_plain) := ⟨rfl, rfl, rfl, by decide +kernel, rfl, by decide +kernel, by decide +kernel⟩
theorem b_ShapeCheck_check_plain (kV doc pm : Value) (an : Option Addr) (cdv ct : Value) (us : List Value) (hl : us.length = (["self", "item"] : List Str).length) : bindArgs (PySem.W.fnOf "check_plain" "ShapeCheck.check_plain" (defArgs s_ShapeCheck_check_plain) (defBody s_ShapeCheck_check_plain) (defScope s_ShapeCheck_check_plain) .none kV doc pm an cdv ct) ⟨us, []⟩ = pure ((["self", "item"] : List Str).zip us) := match us, hl with | [_, _], _ => rfl
theorem ok_check_plain (F : Fun K "check_plain" "ShapeCheck.check_plain" s_ShapeCheck_check_plain f fd) (T : Tx w K mg) (F_require : Mc P w K mg base 1 (CC K) "require" spRequire) (F_is_byte : Fc P w K mg base 1 "is_byte" spIsByte) : FnR P w K mg base CX0 2 f (spPlain K) := by
  refine raw_of F sc_ShapeCheck_check_plain b_ShapeCheck_check_plain (fun vs H Q E h => by obtain ⟨_, _, _, _, _, _, _, _, _, _, _, rfl, _⟩ := h; rfl) (fun cdv A outer s H vs Q E hr h => ?_)
  obtain ⟨F, self, nl, nd, ns, e, c, d, v, x, vis, rfl, ck, hx, ok, hc, q⟩ := h
  refine ⟨_, (pss_cons (ps_if (pt_cmpR op_eq (pe_ix ix_tup (pv 1) pe_int (fun _ _ => rfl)) pe_str (nomark _))
      (pss_cons (ps_expr (pe_mt (pv 0) T.c_ShapeCheck F_require (hr.mono (by omega)) (pa_cons (pe_and (pe_cmpR op_inKI (pe_ix ix_tup (pv 1) pe_int (fun _ _ => rfl)) (pe_gref T.g_GREATEST) (by rfl)) (pe_one (pe_cmpR op_in_seq (pe_ix ix_tup (pv 1) pe_int (fun _ _ => rfl)) (pe_gref T.g_ORDERS) (by rfl)))) pa_nil)))
      (pss_one (ps_expr (pe_mt (pv 0) T.c_ShapeCheck F_require (hr.mono (by omega)) (pa_cons (pe_chain3 op_le op_le op_le pe_int (pe_ix ix_tup (pv 1) pe_int (fun _ _ => rfl)) (pe_ix ix_tup (pv 1) pe_int (fun _ _ => rfl)) (pe_ix ix_KI (pe_gref T.g_GREATEST) (pe_ix ix_tup (pv 1) pe_int (fun _ _ => rfl)) (fun _ _ => rfl))) pa_nil)))))
      pss_nil)
    (pss_cons (ps_if (pt_cmpR op_eq (pe_ix ix_tup (pv 1) pe_int (fun _ _ => rfl)) pe_str (nomark _))
      (pss_one (ps_expr (pe_mt (pv 0) T.c_ShapeCheck F_require (hr.mono (by omega)) (pa_cons (pe_and (pe_cl F_is_byte (hr.mono (by omega)) (pa_cons (pe_ix ix_tup (pv 1) pe_int (fun _ _ => rfl)) pa_nil)) (pe_one (pe_chain op_le op_le pe_int (pe_ix ix_tup (pv 1) pe_int (fun _ _ => rfl)) (pe_gint T.i_MOST_LENGTH)))) pa_nil))))
      pss_nil)
    (pss_cons (ps_if (pt_cmpR op_eq (pe_ix ix_tup (pv 1) pe_int (fun _ _ => rfl)) pe_str (nomark _))
      (pss_one (ps_expr (pe_mt (pv 0) T.c_ShapeCheck F_require (hr.mono (by omega)) (pa_cons (pe_chain op_le op_le pe_int (pe_callB call_len_seq (by rfl) T.f_len PySem.boot_len (pa_cons (pe_ix ix_tup (pv 1) pe_int (fun _ _ => rfl)) pa_nil)) (pe_gint T.i_MOST_CHOICES)) pa_nil))))
      pss_nil)
    (pss_cons (ps_if (pt_cmpR op_eq (pe_ix ix_tup (pv 1) pe_int (fun _ _ => rfl)) pe_str (nomark _))
      (pss_cons (ps_setLcs (ps_setLc (i := 2) (own := [("value", 4), ("_", 5)]) (g := gTup _ 2 (gCons (gName 4) (gCons (gName 5) gNil))) (tt := tYes) rfl sc_ShapeCheck_check_plain.nd rfl rfl (sw_true rfl rfl rfl (by decide +kernel)) (pi_seq (pe_ix ix_tup (pv 1) pe_int (fun _ _ => rfl))) (blkOk_by (own := [("value", 4), ("_", 5)]) (N := N_ShapeCheck_check_plain) (sc := defScope s_ShapeCheck_check_plain) (by decide +kernel)) (fun _ _ _ _ _ => (pg_tup rfl (pgs_cons (pg_name (i := 4) sc_ShapeCheck_check_plain.nd rfl (by first | exact Or.inl rfl | exact Or.inr rfl)) (pgs_cons (pg_name (i := 5) sc_ShapeCheck_check_plain.nd rfl (by first | exact Or.inl rfl | exact Or.inr rfl)) pgs_nil)))) (fun _ _ _ _ _ => pts_nil) (fun _ _ _ _ _ => (pv 4))))
      (pss_cons (ps_expr (pe_mt (pv 0) T.c_ShapeCheck F_require (hr.mono (by omega)) (pa_cons (pe_chain op_le op_le pe_int (pe_callB call_len_seq (by rfl) T.f_len PySem.boot_len (pa_cons (pv 2) pa_nil)) (pe_gint T.i_MOST_CASES)) pa_nil)))
      (pss_one (ps_for PassesOwn.never rfl (pi_enum (by rfl) T.f_enumerate (pa_cons (pv 2) pa_nil)) (pg_tup rfl (pgs_cons (pg_name (i := 3) sc_ShapeCheck_check_plain.nd rfl (by first | exact Or.inl rfl | exact Or.inr rfl)) (pgs_cons (pg_name (i := 4) sc_ShapeCheck_check_plain.nd rfl (by first | exact Or.inl rfl | exact Or.inr rfl)) pgs_nil)))
        (pss_one (ps_expr (pe_mt (pv 0) T.c_ShapeCheck F_require (hr.mono (by omega)) (pa_cons (pe_and (pe_chain op_le op_le pe_int (pv 4) (pe_ix ix_KI (pe_gref T.g_GREATEST) pe_int (fun _ _ => rfl))) (pe_one (pe_cmpR op_notIn_seq (pv 4) (pe_slice sl_list (pv 2) po_none (po_some (pv 3))) (by rfl)))) pa_nil))))))))
      pss_nil)
    (pss_cons (ps_if (pt_cmpR op_eq (pe_ix ix_tup (pv 1) pe_int (fun _ _ => rfl)) pe_str (nomark _))
      (pss_cons (ps_expr (pe_mt (pv 0) T.c_ShapeCheck F_require (hr.mono (by omega)) (pa_cons (pe_and (pe_chain op_le op_le pe_int (pe_ix ix_tup (pv 1) pe_int (fun _ _ => rfl)) (pe_gint T.i_MOST_MODULUS)) (pe_one (pe_cmpR op_eq (pe_fld (pv 0) (by rfl)) pe_int (nomark _)))) pa_nil)))
      (pss_one (ps_fldaug (pv 0) pe_int in_add)))
      pss_nil)
    (pss_one (ps_if (pt_cmpR op_eq (pe_ix ix_tup (pv 1) pe_int (fun _ _ => rfl)) pe_str (nomark _))
      (pss_one (ps_expr (pe_mt (pv 0) T.c_ShapeCheck F_require (hr.mono (by omega)) (pa_cons (pe_and (pe_cmpR op_in_seq (pe_ix ix_tup (pv 1) pe_int (fun _ _ => rfl)) (pe_gref T.g_MULTIPLES) (by rfl)) (pe_one (pe_cl F_is_byte (hr.mono (by omega)) (pa_cons (pe_ix ix_tup (pv 1) pe_int (fun _ _ => rfl)) pa_nil)))) pa_nil))))
      pss_nil))))))), ?_⟩
  obtain ⟨dx, ho⟩ := ck.obj
  obtain ⟨a, rfl, hx⟩ := hx
  match x, hx, ok, hc, q with
  | .pl p, hx, ok, hc, q =>
    have hx : F a = some (.tup p.vs) := hx
    have ok : OkP vis p := ok.2
    rw [p.vs_eq] at hx
    have hT : SqT K H a _ := SqT.of (ck.sub _ _ hx)
    cases p with
    | number y sz o l h =>
      obtain ⟨g1, g2, g3, g4⟩ := ok
      have look : ∃ g, ([(1, 255), (2, 65535)] : List (Int × Int)).lookup sz = some g ∧ h ≤ g := by
        rcases g1 with ⟨rfl, g⟩ | ⟨rfl, g⟩
        · exact ⟨255, by decide, g⟩
        · exact ⟨65535, by decide, g⟩
      obtain ⟨g, hg, hle⟩ := look
      refine sq (r_kY rfl hT (sq (r_req rfl ho ckf_require ?_)))
      refine ⟨_, rfl, a, _, _, _, rfl, rfl, hT, at2, _, _, sz, rfl, rfl, T.dG, ckT (by rw [hg]; rfl) ⟨_, rfl, a, _, _, _, rfl, rfl, hT, at3, _, _, rfl, .inr (T.tO H), rfl, rfl, reqT ?_ ?_⟩⟩
      · have z1 := inV_str o ["big", "little"]
        refine z1.trans (decide_eq_true ?_)
        rcases g2 with rfl | rfl <;> simp
      refine r_req rfl ho ckf_require ?_
      refine ⟨_, rfl, a, _, _, _, rfl, rfl, hT, at4, _, _, rfl, rfl, ckT (decide_eq_true g3) ⟨_, rfl, a, _, _, _, rfl, rfl, hT, at5, _, _, rfl, rfl, ckT (decide_eq_true g4) ⟨_, rfl, a, _, _, _, rfl, rfl, hT, at2, _, _, sz, g, rfl, rfl, T.dG, hg, _, _, rfl, rfl, reqT (decide_eq_true hle) ?_⟩⟩⟩
      dsimp only
      refine sq (r_kN rfl hT (by first | decide +kernel | (dsimp only [Plain.kind]; decide +kernel)) (sq (r_kN rfl hT (by first | decide +kernel | (dsimp only [Plain.kind]; decide +kernel)) (sq (r_kN rfl hT (by first | decide +kernel | (dsimp only [Plain.kind]; decide +kernel)) (sq (r_kN rfl hT (by first | decide +kernel | (dsimp only [Plain.kind]; decide +kernel)) (r_kN rfl hT (by first | decide +kernel | (dsimp only [Plain.kind]; decide +kernel)) ?_))))))))
      have z := q F H (Eff.refl ck.sub)
      rw [show c + ((ItF.chk (ItF.pl (.number y sz o l h) : ItF (Itm d)) : Nat) : Int) = c from Int.add_zero c] at z
      exact z ck
    | bytes y u =>
      refine sq (r_kN rfl hT (by first | decide +kernel | (dsimp only [Plain.kind]; decide +kernel)) (sq (r_kN rfl hT (by first | decide +kernel | (dsimp only [Plain.kind]; decide +kernel)) (sq (r_kN rfl hT (by first | decide +kernel | (dsimp only [Plain.kind]; decide +kernel)) (sq (r_kN rfl hT (by first | decide +kernel | (dsimp only [Plain.kind]; decide +kernel)) (sq (r_kN rfl hT (by first | decide +kernel | (dsimp only [Plain.kind]; decide +kernel)) (r_kN rfl hT (by first | decide +kernel | (dsimp only [Plain.kind]; decide +kernel)) ?_))))))))))
      have z := q F H (Eff.refl ck.sub)
      rw [show c + ((ItF.chk (ItF.pl (.bytes y u) : ItF (Itm d)) : Nat) : Int) = c from Int.add_zero c] at z
      exact z ck
    | text y st m =>
      obtain ⟨⟨g1, g2⟩, g3, g4⟩ := ok
      refine sq (r_kN rfl hT (by first | decide +kernel | (dsimp only [Plain.kind]; decide +kernel)) (sq (r_kY rfl hT (r_req rfl ho ckf_require ?_))))
      refine ⟨_, rfl, a, _, _, _, rfl, rfl, hT, at2, st, rfl, fun H' s => ckT (by rw [decide_eq_true g1, decide_eq_true g2]; rfl) ?_⟩
      have hT' := sqT_same s hT
      refine ⟨_, rfl, a, _, _, _, rfl, rfl, hT', at3, _, _, rfl, rfl, ckT (decide_eq_true g3) ⟨_, _, rfl, rfl, reqT (decide_eq_true g4) ?_⟩⟩
      dsimp only
      refine sq (r_kN rfl hT' (by first | decide +kernel | (dsimp only [Plain.kind]; decide +kernel)) (sq (r_kN rfl hT' (by first | decide +kernel | (dsimp only [Plain.kind]; decide +kernel)) (sq (r_kN rfl hT' (by first | decide +kernel | (dsimp only [Plain.kind]; decide +kernel)) (r_kN rfl hT' (by first | decide +kernel | (dsimp only [Plain.kind]; decide +kernel)) ?_))))))
      have ef : Eff [] F H F H' := Eff.of_same ck.sub s
      have z := q F H' (Eff.of_same ck.sub s)
      rw [show c + ((ItF.chk (ItF.pl (.text y st m) : ItF (Itm d)) : Nat) : Int) = c from Int.add_zero c] at z
      exact z (ck.pure ef)
    | check y m =>
      have c0 : c = 0 := hc rfl
      subst c0
      refine sq (r_kN rfl hT (by first | decide +kernel | (dsimp only [Plain.kind]; decide +kernel)) (sq (r_kN rfl hT (by first | decide +kernel | (dsimp only [Plain.kind]; decide +kernel)) (sq (r_kN rfl hT (by first | decide +kernel | (dsimp only [Plain.kind]; decide +kernel)) (sq (r_kN rfl hT (by first | decide +kernel | (dsimp only [Plain.kind]; decide +kernel)) (sq (r_kY rfl hT (sq (r_req rfl ho ckf_require ?_)))))))))))
      refine ⟨_, rfl, a, _, _, _, rfl, rfl, hT, at2, _, _, rfl, rfl, ckT (decide_eq_true ok.1) ⟨_, _, rfl, rfl, ckT (decide_eq_true ok.2) ?_⟩⟩
      refine ⟨_, rfl, self, _, dx, _, _, rfl, ho, T.c_ShapeCheck, T.n_ShapeCheck_checks, ckf_checks, rfl, reqT rfl ?_⟩
      refine ⟨_, rfl, self, _, dx, _, _, rfl, ho, T.c_ShapeCheck, T.n_ShapeCheck_checks, ckf_checks, _, _, rfl, rfl, dx, _, ho, (by show 3 < 1000; decide), ?_⟩
      rw [ckf_put]
      have k2 := ck.addChk (0 + 1) ho
      have hT' : SqT K (upd H self (.ins (CC K) dx (ckf nl nd (0 + 1)))) a _ := SqT.of (k2.sub _ _ hx)
      dsimp only
      refine r_kN rfl hT' (by first | decide +kernel | (dsimp only [Plain.kind]; decide +kernel)) ?_
      exact q F _ ((Eff.refl ck.sub).wr ck.fs (.inl (by simp))) k2
    | pad y m b =>
      obtain ⟨g1, g2, g3⟩ := ok
      refine sq (r_kN rfl hT (by first | decide +kernel | (dsimp only [Plain.kind]; decide +kernel)) (sq (r_kN rfl hT (by first | decide +kernel | (dsimp only [Plain.kind]; decide +kernel)) (sq (r_kN rfl hT (by first | decide +kernel | (dsimp only [Plain.kind]; decide +kernel)) (sq (r_kN rfl hT (by first | decide +kernel | (dsimp only [Plain.kind]; decide +kernel)) (sq (r_kN rfl hT (by first | decide +kernel | (dsimp only [Plain.kind]; decide +kernel)) (r_kY rfl hT (r_req rfl ho ckf_require ?_)))))))))))
      refine ⟨_, rfl, a, _, _, _, rfl, rfl, hT, at2, _, _, rfl, .inr (T.tM H), rfl, rfl, ckT ?_ ⟨_, rfl, a, _, _, _, rfl, rfl, hT, at3, b, rfl, fun H' s => reqT (by rw [decide_eq_true g2, decide_eq_true g3]; rfl) ?_⟩⟩
      · refine (inV_int m [1, 2, 4, 8, 16]).trans (decide_eq_true ?_)
        rcases g1 with rfl | rfl | rfl | rfl | rfl <;> simp
      · have ef : Eff [] F H F H' := Eff.of_same ck.sub s
        have z := q F H' (Eff.of_same ck.sub s)
        rw [show c + ((ItF.chk (ItF.pl (.pad y m b) : ItF (Itm d)) : Nat) : Int) = c from Int.add_zero c] at z
        exact z (ck.pure ef)
  | .rep n u b, ⟨w', hx, hb⟩, ok, hc, q =>
    have hT : SqT K H a _ := SqT.of (ck.sub _ _ hx)
    refine sq (r_kN rfl hT (by first | decide +kernel | (dsimp only [Plain.kind]; decide +kernel)) (sq (r_kN rfl hT (by first | decide +kernel | (dsimp only [Plain.kind]; decide +kernel)) (sq (r_kN rfl hT (by first | decide +kernel | (dsimp only [Plain.kind]; decide +kernel)) (sq (r_kN rfl hT (by first | decide +kernel | (dsimp only [Plain.kind]; decide +kernel)) (sq (r_kN rfl hT (by first | decide +kernel | (dsimp only [Plain.kind]; decide +kernel)) (r_kN rfl hT (by first | decide +kernel | (dsimp only [Plain.kind]; decide +kernel)) ?_))))))))))
    have z := q F H (Eff.refl ck.sub)
    rw [show c + ((ItF.chk (ItF.rep n u b : ItF (Itm d)) : Nat) : Int) = c from Int.add_zero c] at z
    exact z ck
  | .eit n bs, ⟨w', hx, hb⟩, ok, hc, q =>
    have hT : SqT K H a _ := SqT.of (ck.sub _ _ hx)
    obtain ⟨bl, vs, rfl, hs, hp, hlen, hz⟩ := isSeq_sq (K := K) ck.sub hb
    have g1 : 2 ≤ bs.length := ok.2.2.1
    have g2 : bs.length ≤ 4 := ok.2.2.2.1
    refine sq (r_kN rfl hT (by first | decide +kernel | (dsimp only [Plain.kind]; decide +kernel)) (sq (r_kN rfl hT (by first | decide +kernel | (dsimp only [Plain.kind]; decide +kernel)) (sq (r_kY rfl hT (r_req rfl ho ckf_require ?_))))))
    refine ⟨_, rfl, a, _, _, _, rfl, rfl, hT, at2, bl, vs, rfl, hs, _, _, rfl, rfl, ckT (decide_eq_true (by rw [hlen]; omega)) ⟨_, _, rfl, rfl, reqT (decide_eq_true (by rw [hlen]; omega)) ?_⟩⟩
    dsimp only
    refine sq (r_kN rfl hT (by first | decide +kernel | (dsimp only [Plain.kind]; decide +kernel)) (sq (r_kN rfl hT (by first | decide +kernel | (dsimp only [Plain.kind]; decide +kernel)) (r_kN rfl hT (by first | decide +kernel | (dsimp only [Plain.kind]; decide +kernel)) ?_))))
    have z := q F H (Eff.refl ck.sub)
    rw [show c + ((ItF.chk (ItF.eit n bs : ItF (Itm d)) : Nat) : Int) = c from Int.add_zero c] at z
    exact z ck
  | .swi n t cs, ⟨w', hx, hb⟩, ok, hc, q =>
    have hT : SqT K H a _ := SqT.of (ck.sub _ _ hx)
    obtain ⟨bl, vs, rfl, hs, hp, hlen, hz⟩ := isSeq_sq (K := K) ck.sub hb
    obtain ⟨_, _, _, g1, g2, gN, g3⟩ := ok
    refine sq (r_kN rfl hT (by first | decide +kernel | (dsimp only [Plain.kind]; decide +kernel)) (sq (r_kN rfl hT (by first | decide +kernel | (dsimp only [Plain.kind]; decide +kernel)) (sq (r_kN rfl hT (by first | decide +kernel | (dsimp only [Plain.kind]; decide +kernel)) (sq (r_kY rfl hT (sq ?_))))))))
    refine ⟨_, rfl, a, _, _, _, rfl, rfl, hT, at3, bl, rfl, lcp hs (by omega) ck.sub (fun i y _ => ∃ k, (cs.map (·.1))[i]? = some k ∧ y = .int k) (fun _ _ _ _ _ h => h) (fun i v F' H' hv ef k hk => ?_) (fun Dl ys F' H' nD ef hD hl2 hR => ?_)⟩
    · obtain ⟨cc, hcc, e', w2, rfl, h2, h3⟩ := paired_at hp hv
      refine ⟨e', _, rfl, eff_sqT ef h2, rfl, _, _, rfl, _, _, rfl, rfl, ?_⟩
      exact ⟨rfl, _, rfl, hk _ _ _ (Eff.refl ef.sub) ⟨cc.1, by rw [List.getElem?_map, hcc]; rfl, rfl⟩⟩
    · have ey : ys = (cs.map (·.1)).map V.int := list_of_at _ (by rw [List.length_map]; omega) fun i y hi => hR i y hi
      subst ey
      have ck1 := ck.pure ef
      obtain ⟨dx1, ho1⟩ := ck1.obj
      have hl1 : H' Dl = some (.lst ((cs.map (·.1)).map V.int)) := ef.sub _ _ hD
      have el : ((cs.map (·.1)).map V.int).length = cs.length := by rw [List.length_map, List.length_map]
      refine sq (r_req rfl ho1 ckf_require ?_)
      refine ⟨_, rfl, Dl, _, rfl, .inl (SqL.of hl1), _, _, rfl, rfl, ckT (decide_eq_true (by rw [el]; omega)) ⟨_, _, rfl, rfl, reqT (decide_eq_true (by rw [el]; omega)) ?_⟩⟩
      refine ⟨_, rfl, Dl, _, rfl, SqL.of hl1, for_enum (K := K) (a := Dl) (xs := (cs.map (·.1)).map V.int) (fun i σ H2 => ∃ v3 v4 v5, σ = [some (.ref self), some (.ref a), some (.ref Dl), v3, v4, v5] ∧ Eff [] F H F' H2) ⟨_, _, _, rfl, ef⟩ (fun i σ H2 _ ⟨_, _, _, _, e2⟩ => SqL.of (e2.sub _ _ hD)) ?_ ?_⟩
      · rintro i y σ H2 T2 hi ⟨v3, v4, v5, rfl, e2⟩ hT2
        have ck2 := ck.pure e2
        have e3 := e2.loc hT2 (o := .tup [.int (i : Nat), y])
        have ck3 := ck.pure e3
        obtain ⟨dx3, ho3⟩ := ck3.obj
        rw [List.getElem?_map] at hi
        cases hk : (cs.map (·.1))[i]? with
        | none => rw [hk] at hi; cases hi
        | some kv =>
          rw [hk] at hi
          cases hi
          have hmem : ∃ cc ∈ cs, cc.1 = kv := by
            rw [List.getElem?_map] at hk
            cases hc2 : cs[i]? with
            | none => rw [hc2] at hk; cases hk
            | some cc => rw [hc2] at hk; cases hk; exact ⟨cc, List.mem_of_getElem? hc2, rfl⟩
          obtain ⟨cc, hm1, rfl⟩ := hmem
          have g4 := (g3 cc hm1).1
          refine ⟨T2, _, rfl, SqT.of upd_same, rfl, _, _, rfl, _, _, rfl, rfl, ?_⟩
          refine r_req rfl ho3 ckf_require ?_
          refine ⟨_, rfl, _, _, rfl, rfl, ckT (decide_eq_true g4.1) ⟨_, _, 2, 65535, rfl, rfl, T.dG, by decide, _, _, rfl, rfl, ckT (decide_eq_true g4.2) ⟨_, rfl, _, rfl, ?_⟩⟩⟩
          refine ⟨_, rfl, _, rfl, Dl, _, rfl, SqL.of (e3.sub _ _ hD), fun p np => ?_⟩
          have hlt : i < ((cs.map (·.1)).map V.int).length := by
            have := (List.getElem?_eq_some_iff.mp hk).1
            rw [List.length_map]
            exact this
          refine ⟨p, _, rfl, .inl (SqL.of upd_same), rfl, ?_, reqT ?_ ⟨_, _, _, rfl, e3.loc np⟩⟩
          · rw [cut_take _ _ (by omega), ← List.map_take]
            exact flat_int _
          · rw [cut_take _ _ (by omega), ← List.map_take]
            show (!inV _ _) = true
            rw [inV_int, decide_eq_false (take_not gN hk)]
            rfl
      · rintro σ H2 ⟨v3, v4, v5, rfl, e2⟩
        have hT2 : SqT K H2 a _ := eff_sqT e2 hx
        dsimp only
        refine sq (r_kN rfl hT2 (by decide +kernel) (r_kN rfl hT2 (by decide +kernel) ?_))
        have z := q F' H2 (e2.more (by simp))
        rw [show c + ((ItF.chk (ItF.swi n t cs : ItF (Itm d)) : Nat) : Int) = c from Int.add_zero c] at z
        exact z (ck.pure e2)
end
end K6
set_option Elab.async false
set_option linter.all false
set_option maxRecDepth 100000
set_option maxHeartbeats 4000000
namespace K6
open PySem PySem.Spec PyProof.Rows L2
abbrev visV (vis : Env1) : List V := (vis.map fun q => q.1).map V.str
/-! ### within a comprehension: K by its name -/
theorem pe_fldK {X : Cx} {K' : PySem.W.Frag} {e : Expr} {ta : TE} {f : Str} {pos : Pos} (hK : X.K = K') (he : PE X e ta) (hb : attributeBase e f X.env (eval e X.env) = eval e X.env) : PE X (.Attribute e f pos) (tFld K' ta f) := hK ▸ pe_fld he hb
theorem ix_tupK {X : Cx} {K' : PySem.W.Frag} (hK : X.K = K') : IxR X (rIxT K') := hK ▸ ix_tup
theorem ix_listK {X : Cx} {K' : PySem.W.Frag} (hK : X.K = K') : IxR X (rIxL K') := hK ▸ ix_list
section
variable {P : Program} {w : World} {K : PySem.W.Frag} {mg : Str → Option Value} {base : Heap} {f : Addr} {fd : FuncData}
/-! ### check_uses -/
def spUses (K : PySem.W.Frag) : Sp := fun vs H Q _ => ∃ (F : Hp) (self nl nd vl : Addr) (ns : List Str) (e : Env1) (c : Int) (d : Nat) (v : V) (x : Itm (d + 1)) (vis : Env1), vs = [.ref self, v, .ref vl] ∧ Ck (CC K) F H self nl nd ns e c ∧ IsIt false F (d + 1) v x ∧ OkI (d + 1) vis x ∧
  H vl = some (.lst (visV vis)) ∧ (∀ q ∈ vis, e.lookup q.1 = some q.2) ∧ ∀ H', Same H H' → Q .non H'
abbrev s_ShapeCheck_check_uses : Stmt := inClass (top 31) 4
abbrev N_ShapeCheck_check_uses : List Str := ["self", "item", "visible", "most", "least", "greatest"]
theorem sc_ShapeCheck_check_uses : FnScope N_ShapeCheck_check_uses ["self", "item", "visible"] (defScope s_ShapeCheck_check_uses) := ⟨rfl, rfl, rfl, by decide +kernel, rfl, by decide +kernel, by decide +kernel⟩
theorem b_ShapeCheck_check_uses (kV doc pm : Value) (an : Option Addr) (cdv ct : Value) (us : List Value) (hl : us.length = (["self", "item", "visible"] : List Str).length) : bindArgs (PySem.W.fnOf "check_uses" "ShapeCheck.check_uses" (defArgs s_ShapeCheck_check_uses) (defBody s_ShapeCheck_check_uses) (defScope s_ShapeCheck_check_uses) .none kV doc pm an cdv ct) ⟨us, []⟩ = pure ((["self", "item", "visible"] : List Str).zip us) := match us, hl with | [_, _, _], _ => rfl
theorem ok_check_uses (F : Fun K "check_uses" "ShapeCheck.check_uses" s_ShapeCheck_check_uses f fd) (T : Tx w K mg) (F_require : Mc P w K mg base 1 (CC K) "require" spRequire) (F_bounds : Fc P w K mg base 1 "bounds" spBounds) : FnR P w K mg base CX0 2 f (spUses K) := by
  refine raw_of F sc_ShapeCheck_check_uses b_ShapeCheck_check_uses (fun vs H Q E h => by obtain ⟨_, _, _, _, _, _, _, _, _, _, _, _, rfl, _⟩ := h; rfl) (fun cdv A outer s H vs Q E hr h => ?_)
  obtain ⟨F, self, nl, nd, vl, ns, e, c, d, v, x, vis, rfl, ck, hx, ok, hvl, hv, q⟩ := h
  refine ⟨_, (pss_cons (ps_if (pt_cmpR op_eq (pe_ix ix_tup (pv 1) pe_int (fun _ _ => rfl)) pe_str (nomark _))
      (pss_one (ps_expr (pe_mt (pv 0) T.c_ShapeCheck F_require (hr.mono (by omega)) (pa_cons (pe_cmpR op_in_seq (pe_ix ix_tup (pv 1) pe_int (fun _ _ => rfl)) (pv 2) (by rfl)) pa_nil))))
      pss_nil)
    (pss_one (ps_if (pt_cmpR op_in_seq (pe_ix ix_tup (pv 1) pe_int (fun _ _ => rfl)) (pe_tup (pa_cons pe_str (pa_cons pe_str pa_nil))) (by rfl))
      (pss_cons (ps_expr (pe_mt (pv 0) T.c_ShapeCheck F_require (hr.mono (by omega)) (pa_cons (pe_or (pe_callB call_isi (by rfl) T.f_isinstance (by decide +kernel) (pa_cons (pe_ix ix_tup (pv 1) pe_int (fun _ _ => rfl)) (pa_cons (pe_bltn (v := .ty "int") (by rfl) T.f_int boot_int rfl) pa_nil))) (pe_one (pe_cmpR op_in_seq (pe_ix ix_tup (pv 1) pe_int (fun _ _ => rfl)) (pv 2) (by rfl)))) pa_nil)))
      (pss_cons (ps_set (i := 3) sc_ShapeCheck_check_uses.nd rfl (by first | exact Or.inl rfl | exact Or.inr rfl) (pe_gint T.i_MOST_LENGTH))
      (pss_cons (ps_if (pt_cmpR op_eq (pe_ix ix_tup (pv 1) pe_int (fun _ _ => rfl)) pe_str (nomark _))
        (pss_one (ps_set (i := 3) sc_ShapeCheck_check_uses.nd rfl (by first | exact Or.inl rfl | exact Or.inr rfl) (pe_gint T.i_MOST_COUNT)))
        pss_nil)
      (pss_cons (ps_asg (pe_cl F_bounds (hr.mono (by omega)) (pa_cons (pe_ix ix_tup (pv 1) pe_int (fun _ _ => rfl)) (pa_cons (pe_fld (pv 0) (by rfl)) pa_nil))) (pg_tup rfl (pgs_cons (pg_name (i := 4) sc_ShapeCheck_check_uses.nd rfl (by first | exact Or.inl rfl | exact Or.inr rfl)) (pgs_cons (pg_name (i := 5) sc_ShapeCheck_check_uses.nd rfl (by first | exact Or.inl rfl | exact Or.inr rfl)) pgs_nil))))
      (pss_one (ps_expr (pe_mt (pv 0) T.c_ShapeCheck F_require (hr.mono (by omega)) (pa_cons (pe_and (pe_cmpR op_le pe_int (pv 4) (nomark _)) (pe_one (pe_cmpR op_le (pv 5) (pv 3) (nomark _)))) pa_nil))))))))
      pss_nil))), ?_⟩
  obtain ⟨dx, ho⟩ := ck.obj
  obtain ⟨a, rfl, hx⟩ := hx
  have use1 : ∀ {u : Use} {most : Int}, UseOk vis most u → (∃ n, u = .lit n) ∨ ∃ y, u = .nam y ∧ inV (.str y) (visV vis) = true := by
    intro u most h
    cases u with
    | lit n => exact .inl ⟨n, rfl⟩
    | nam y =>
      obtain ⟨lo, hi, h1, _⟩ := h
      exact .inr ⟨y, rfl, by rw [inV_str]; exact decide_eq_true (List.mem_map.mpr ⟨_, h1, rfl⟩)⟩
  match x, hx, ok, q with
  | .pl p, hx, ok, q =>
    have hx : F a = some (.tup p.vs) := hx
    have ok : OkP vis p := ok.2
    rw [p.vs_eq] at hx
    have hT : SqT K H a _ := SqT.of (ck.sub _ _ hx)
    cases p with
    | number y sz o l h =>
      refine sq (r_kN rfl hT (by first | decide +kernel | (dsimp only [Plain.kind]; decide +kernel)) (r_in (ls := ["bytes", "repeat"]) (fun Q h => h) rfl hT (by decide) fun H' s => ?_))
      rw [if_neg (by dsimp only [Plain.kind]; decide +kernel)]
      exact q H' s
    | bytes y u =>
      have ok : UseOk vis 64 u := ok
      obtain ⟨_, lo, hi, b1, b2, b3⟩ := useC_of hv (by decide) ok
      refine sq (r_kN rfl hT (by first | decide +kernel | (dsimp only [Plain.kind]; decide +kernel)) (r_in (ls := ["bytes", "repeat"]) (fun Q h => h) rfl hT (by decide) fun H' s => ?_))
      rw [if_pos (by dsimp only [Plain.kind]; decide +kernel)]
      have ef : Eff [] F H F H' := Eff.of_same ck.sub s
      have ck1 := ck.pure ef
      have hT1 := sqT_same s hT
      obtain ⟨dx1, ho1⟩ := ck1.obj
      refine r_req rfl ho1 ckf_require ?_
      cases u with
      | lit n =>
        refine ⟨_, rfl, a, _, _, _, rfl, rfl, hT1, at2, _, _, _, _, true, rfl, .ty "int", .base (.int _), kit_ty (a := "int") (b := "int") (by decide +kernel), ckT rfl (reqT rfl ?_)⟩
        dsimp only
        refine sq (show tSeq _ _ _ _ _ from sq (r_kN rfl hT1 (by first | decide +kernel | (dsimp only [Plain.kind]; decide +kernel)) ?_))
        dsimp only
        refine sq ?_
        refine ⟨_, rfl, a, _, _, _, rfl, rfl, hT1, at2, _, rfl, self, _, dx1, _, _, rfl, ho1, T.c_ShapeCheck, T.n_ShapeCheck_numbers, ckf_numbers, ?_⟩
        refine ⟨_, nd, F, e, lo, hi, rfl, ck1.sub, ck1.env, b1, fun t H2 s2 ht => ?_⟩
        refine ⟨t, _, rfl, SqT.of ht, rfl, _, _, rfl, _, _, rfl, rfl, ?_⟩
        obtain ⟨dx2, ho2⟩ := (ck1.pure (Eff.of_same ck1.sub s2)).obj
        refine r_req rfl ho2 ckf_require ?_
        exact ⟨_, rfl, _, _, rfl, rfl, ckT (decide_eq_true b2) ⟨_, rfl, _, rfl, _, _, rfl, rfl, reqT (decide_eq_true b3) (q H2 (s.trans s2))⟩⟩
      | nam z =>
        have hin : inV (.str z) (visV vis) = true := by
          rcases use1 ok with ⟨n', h'⟩ | ⟨y', h', h''⟩
          · cases h'
          · cases h'; exact h''
        refine ⟨_, rfl, a, _, _, _, rfl, rfl, hT1, at2, _, _, _, _, false, rfl, .ty "int", .base (.str z), kit_ty (a := "str") (b := "int") (by decide +kernel), ckF rfl ⟨_, rfl, a, _, _, _, rfl, rfl, hT1, at2, _, rfl, vl, _, rfl, .inl (SqL.of (s _ _ hvl)), rfl, flat_str _, reqT hin ?_⟩⟩
        dsimp only
        refine sq (show tSeq _ _ _ _ _ from sq (r_kN rfl hT1 (by first | decide +kernel | (dsimp only [Plain.kind]; decide +kernel)) ?_))
        dsimp only
        refine sq ?_
        refine ⟨_, rfl, a, _, _, _, rfl, rfl, hT1, at2, _, rfl, self, _, dx1, _, _, rfl, ho1, T.c_ShapeCheck, T.n_ShapeCheck_numbers, ckf_numbers, ?_⟩
        refine ⟨_, nd, F, e, lo, hi, rfl, ck1.sub, ck1.env, b1, fun t H2 s2 ht => ?_⟩
        refine ⟨t, _, rfl, SqT.of ht, rfl, _, _, rfl, _, _, rfl, rfl, ?_⟩
        obtain ⟨dx2, ho2⟩ := (ck1.pure (Eff.of_same ck1.sub s2)).obj
        refine r_req rfl ho2 ckf_require ?_
        exact ⟨_, rfl, _, _, rfl, rfl, ckT (decide_eq_true b2) ⟨_, rfl, _, rfl, _, _, rfl, rfl, reqT (decide_eq_true b3) (q H2 (s.trans s2))⟩⟩
    | text y st m =>
      refine sq (r_kN rfl hT (by first | decide +kernel | (dsimp only [Plain.kind]; decide +kernel)) (r_in (ls := ["bytes", "repeat"]) (fun Q h => h) rfl hT (by decide) fun H' s => ?_))
      rw [if_neg (by dsimp only [Plain.kind]; decide +kernel)]
      exact q H' s
    | check y m =>
      refine sq (r_kN rfl hT (by first | decide +kernel | (dsimp only [Plain.kind]; decide +kernel)) (r_in (ls := ["bytes", "repeat"]) (fun Q h => h) rfl hT (by decide) fun H' s => ?_))
      rw [if_neg (by dsimp only [Plain.kind]; decide +kernel)]
      exact q H' s
    | pad y m b =>
      refine sq (r_kN rfl hT (by first | decide +kernel | (dsimp only [Plain.kind]; decide +kernel)) (r_in (ls := ["bytes", "repeat"]) (fun Q h => h) rfl hT (by decide) fun H' s => ?_))
      rw [if_neg (by dsimp only [Plain.kind]; decide +kernel)]
      exact q H' s
  | .rep n u b, ⟨w', hx, hb⟩, ok, q =>
    have hT : SqT K H a _ := SqT.of (ck.sub _ _ hx)
    have ok : UseOk vis 16 u := ok.2.2.1
    obtain ⟨_, lo, hi, b1, b2, b3⟩ := useC_of hv (by decide) ok
    refine sq (r_kN rfl hT (by first | decide +kernel | (dsimp only [Plain.kind]; decide +kernel)) (r_in (ls := ["bytes", "repeat"]) (fun Q h => h) rfl hT (by decide) fun H' s => ?_))
    rw [if_pos (by decide +kernel)]
    have ef : Eff [] F H F H' := Eff.of_same ck.sub s
    have ck1 := ck.pure ef
    have hT1 := sqT_same s hT
    obtain ⟨dx1, ho1⟩ := ck1.obj
    refine r_req rfl ho1 ckf_require ?_
    cases u with
    | lit n =>
      refine ⟨_, rfl, a, _, _, _, rfl, rfl, hT1, at2, _, _, _, _, true, rfl, .ty "int", .base (.int _), kit_ty (a := "int") (b := "int") (by decide +kernel), ckT rfl (reqT rfl ?_)⟩
      dsimp only
      refine sq (show tSeq _ _ _ _ _ from sq (r_kY rfl hT1 ?_))
      dsimp only
      refine sq ?_
      refine ⟨_, rfl, a, _, _, _, rfl, rfl, hT1, at2, _, rfl, self, _, dx1, _, _, rfl, ho1, T.c_ShapeCheck, T.n_ShapeCheck_numbers, ckf_numbers, ?_⟩
      refine ⟨_, nd, F, e, lo, hi, rfl, ck1.sub, ck1.env, b1, fun t H2 s2 ht => ?_⟩
      refine ⟨t, _, rfl, SqT.of ht, rfl, _, _, rfl, _, _, rfl, rfl, ?_⟩
      obtain ⟨dx2, ho2⟩ := (ck1.pure (Eff.of_same ck1.sub s2)).obj
      refine r_req rfl ho2 ckf_require ?_
      exact ⟨_, rfl, _, _, rfl, rfl, ckT (decide_eq_true b2) ⟨_, rfl, _, rfl, _, _, rfl, rfl, reqT (decide_eq_true b3) (q H2 (s.trans s2))⟩⟩
    | nam z =>
      have hin : inV (.str z) (visV vis) = true := by
        rcases use1 ok with ⟨n', h'⟩ | ⟨y', h', h''⟩
        · cases h'
        · cases h'; exact h''
      refine ⟨_, rfl, a, _, _, _, rfl, rfl, hT1, at2, _, _, _, _, false, rfl, .ty "int", .base (.str z), kit_ty (a := "str") (b := "int") (by decide +kernel), ckF rfl ⟨_, rfl, a, _, _, _, rfl, rfl, hT1, at2, _, rfl, vl, _, rfl, .inl (SqL.of (s _ _ hvl)), rfl, flat_str _, reqT hin ?_⟩⟩
      dsimp only
      refine sq (show tSeq _ _ _ _ _ from sq (r_kY rfl hT1 ?_))
      dsimp only
      refine sq ?_
      refine ⟨_, rfl, a, _, _, _, rfl, rfl, hT1, at2, _, rfl, self, _, dx1, _, _, rfl, ho1, T.c_ShapeCheck, T.n_ShapeCheck_numbers, ckf_numbers, ?_⟩
      refine ⟨_, nd, F, e, lo, hi, rfl, ck1.sub, ck1.env, b1, fun t H2 s2 ht => ?_⟩
      refine ⟨t, _, rfl, SqT.of ht, rfl, _, _, rfl, _, _, rfl, rfl, ?_⟩
      obtain ⟨dx2, ho2⟩ := (ck1.pure (Eff.of_same ck1.sub s2)).obj
      refine r_req rfl ho2 ckf_require ?_
      exact ⟨_, rfl, _, _, rfl, rfl, ckT (decide_eq_true b2) ⟨_, rfl, _, rfl, _, _, rfl, rfl, reqT (decide_eq_true b3) (q H2 (s.trans s2))⟩⟩
  | .eit n bs, ⟨w', hx, hb⟩, ok, q =>
    have hT : SqT K H a _ := SqT.of (ck.sub _ _ hx)
    refine sq (r_kN rfl hT (by first | decide +kernel | (dsimp only [Plain.kind]; decide +kernel)) (r_in (ls := ["bytes", "repeat"]) (fun Q h => h) rfl hT (by decide) fun H' s => ?_))
    rw [if_neg (by decide +kernel)]
    exact q H' s
  | .swi n t cs, ⟨w', hx, hb⟩, ok, q =>
    have hT : SqT K H a _ := SqT.of (ck.sub _ _ hx)
    obtain ⟨lo, hi, ht⟩ := ok.2.2.1
    refine sq (r_kY rfl hT (r_req rfl ho ckf_require ?_))
    refine ⟨_, rfl, a, _, _, _, rfl, rfl, hT, at2, _, rfl, vl, _, rfl, .inl (SqL.of hvl), rfl, flat_str _, reqT ?_ ?_⟩
    · refine (inV_str t (vis.map fun q => q.1)).trans (decide_eq_true (List.mem_map.mpr ⟨_, ht, rfl⟩))
    · dsimp only
      refine r_in (ls := ["bytes", "repeat"]) (fun Q h => h) rfl hT (by decide) fun H' s => ?_
      rw [if_neg (by decide +kernel)]
      exact q H' s
/-! ### check_lengths -/
def spLengths (K : PySem.W.Frag) (d : Nat) : Sp := fun vs H Q _ => ∃ (F : Hp) (self nl nd : Addr) (ns : List Str) (e : Env1) (c : Int) (v : V) (x : Itm (d + 1)), vs = [.ref self, v] ∧ Ck (CC K) F H self nl nd ns e c ∧ IsIt false F (d + 1) v x ∧ OkA (d + 1) x ∧ Closed e (d + 1) x ∧
  ∀ F' H', Eff [] F H F' H' → Q .non H'
abbrev s_ShapeCheck_check_lengths : Stmt := inClass (top 31) 5
abbrev N_ShapeCheck_check_lengths : List Str := ["self", "item", "lengths", "block"]
theorem sc_ShapeCheck_check_lengths : FnScope N_ShapeCheck_check_lengths ["self", "item"] (defScope s_ShapeCheck_check_lengths) := ⟨rfl, rfl, rfl, by decide +kernel, rfl, by decide +kernel, by decide +kernel⟩
theorem b_ShapeCheck_check_lengths (kV doc pm : Value) (an : Option Addr) (cdv ct : Value) (us : List Value) (hl : us.length = (["self", "item"] : List Str).length) : bindArgs (PySem.W.fnOf "check_lengths" "ShapeCheck.check_lengths" (defArgs s_ShapeCheck_check_lengths) (defBody s_ShapeCheck_check_lengths) (defScope s_ShapeCheck_check_lengths) .none kV doc pm an cdv ct) ⟨us, []⟩ = pure ((["self", "item"] : List Str).zip us) := match us, hl with | [_, _], _ => rfl
theorem ok_check_lengths {d k : Nat} (F : Fun K "check_lengths" "ShapeCheck.check_lengths" s_ShapeCheck_check_lengths f fd) (T : Tx w K mg) (F_require : Mc P w K mg base 1 (CC K) "require" spRequire) (F_blocks_of : Fc P w K mg base 1 "blocks_of" spBlocks)
    (F_least_of_items : Fc P w K mg base k "least_of_items" (spLeastItems d)) (hk1 : 1 ≤ k) : FnR P w K mg base CX0 (k + 1) f (spLengths K d) := by
  refine raw_of F sc_ShapeCheck_check_lengths b_ShapeCheck_check_lengths (fun vs H Q E h => by obtain ⟨_, _, _, _, _, _, _, _, _, rfl, _⟩ := h; rfl) (fun cdv A outer s H vs Q E hr h => ?_)
  obtain ⟨F, self, nl, nd, ns, e, c, v, x, rfl, ck, hx, ok, hc, q⟩ := h
  refine ⟨_, (pss_cons (ps_setLcs (ps_setLc (i := 2) (own := [("block", 3)]) (g := gName 3) (tt := tYes) rfl sc_ShapeCheck_check_lengths.nd rfl rfl (sw_true rfl rfl rfl (by decide +kernel)) (pi_seq (pe_cl F_blocks_of (hr.mono (by omega)) (pa_cons (pv 1) pa_nil))) (blkOk_by (own := [("block", 3)]) (N := N_ShapeCheck_check_lengths) (sc := defScope s_ShapeCheck_check_lengths) (by decide +kernel)) (fun _ _ _ _ _ => (pg_name (i := 3) sc_ShapeCheck_check_lengths.nd rfl (by first | exact Or.inl rfl | exact Or.inr rfl))) (fun _ _ _ _ _ => pts_nil) (fun _ _ _ _ _ => (pe_cl F_least_of_items (hr.mono (by omega)) (pa_cons (pv 3) (pa_cons (pe_fldK (K' := K) rfl (pv 0) (by rfl)) pa_nil))))))
    (pss_cons (ps_if (pt_cmpR op_eq (pe_ix ix_tup (pv 1) pe_int (fun _ _ => rfl)) pe_str (nomark _))
      (pss_one (ps_expr (pe_mt (pv 0) T.c_ShapeCheck F_require (hr.mono (by omega)) (pa_cons (pe_cmpR op_gt (pe_ix ix_list (pv 2) pe_int (fun _ _ => rfl)) pe_int (nomark _)) pa_nil))))
      pss_nil)
    (pss_one (ps_if (pt_cmpR op_eq (pe_ix ix_tup (pv 1) pe_int (fun _ _ => rfl)) pe_str (nomark _))
      (pss_one (ps_expr (pe_mt (pv 0) T.c_ShapeCheck F_require (hr.mono (by omega)) (pa_cons (pe_cmpR op_le (pe_bm PySem.F.plainAttrs_list PySem.F.slot_list_count PySem.F.type_list_count mt_lcount (pv 2) (pa_cons pe_int pa_nil)) pe_int (nomark _)) pa_nil))))
      pss_nil)))), ?_⟩
  have hx0 := hx
  obtain ⟨a, w', ea, ht⟩ := isIt_tup hx
  subst ea
  refine sq ⟨_, rfl, false, F, d, _, x, rfl, ck.sub, hx0, fun r ws F1 H1 ef hr' hp hl => ⟨r, rfl, lcp (.inl (SqL.of (ef.sub _ _ hr'))) (by omega) ef.sub (fun i y _ => ∃ b, (ItF.blocks x)[i]? = some b ∧ y = .int (b.map (least e d)).sum) (fun _ _ _ _ _ h => h) (fun i v F2 H2 hv ef2 k hk => ?_) (fun Dl ys F2 H2 nD ef2 hD hl2 hR => ?_)⟩⟩
  · obtain ⟨b, hb, hi⟩ := paired_at hp hv
    have e12 := ef.pure ef2
    have ck2 := ck.pure e12
    obtain ⟨dx2, ho2⟩ := ck2.obj
    exact ⟨rfl, _, rfl, _, rfl, self, _, dx2, _, _, rfl, ho2, T.c_ShapeCheck, T.n_ShapeCheck_numbers, ckf_numbers, false, v, nd, b, e, rfl, isIts_mono (ef2.same.trans ef2.sub) hi, isEnv_same ef2.sub (Same.refl _) ck2.env, closedA hc b (List.mem_of_getElem? hb), fun H'' s => hk _ F2 _ (Eff.of_same ef2.sub s) ⟨b, hb, rfl⟩⟩
  · have ey : ys = ((ItF.blocks x).map fun b => (b.map (least e d)).sum).map V.int := by
      rw [List.map_map]
      exact list_of_at _ (by rw [hl2]; exact paired_len hp) fun i y hi => hR i y hi
    rw [ey] at hD
    have e12 := ef.pure ef2
    have ck2 := ck.pure e12
    obtain ⟨dx2, ho2⟩ := ck2.obj
    have hT2 : SqT K H2 a _ := eff_sqT e12 ht
    have hL : H2 Dl = _ := ef2.sub _ _ hD
    match x, hc, ok, hT2, hL with
    | .pl p, hc, ok, hT2, hL =>
      refine sq (r_kN rfl hT2 (pk_rep p) (r_kN rfl hT2 (pk_eit p) ?_))
      exact q F2 H2 e12
    | .rep n u b, hc, ok, hT2, hL =>
      refine sq (r_kY rfl hT2 (r_req rfl ho2 ckf_require ?_))
      have pos : 0 < (b.map (least e d)).sum := begins_pos d b (by obtain ⟨vis, ok⟩ := ok; exact ok.2.2.2.1) (okA_blocks ok b (List.mem_singleton.mpr rfl)).2 hc.2
      refine ⟨_, rfl, Dl, _, 0, _, rfl, rfl, SqL.of hL, at0, _, _, rfl, rfl, reqT (decide_eq_true pos) ?_⟩
      dsimp only
      refine r_kN rfl hT2 (by dsimp only [ItF.kind]; decide +kernel) ?_
      exact q F2 H2 e12
    | .eit n bs, hc, ok, hT2, hL =>
      refine sq (r_kN rfl hT2 (by dsimp only [ItF.kind]; decide +kernel) (r_kY rfl hT2 (r_req rfl ho2 ckf_require ?_)))
      have cnt : (bs.map fun b => (b.map (least e d)).sum).count 0 ≤ 1 := by
        refine count_rest fun z hz => ?_
        rw [← List.map_drop] at hz
        obtain ⟨b, hb, rfl⟩ := List.mem_map.mp hz
        have hb2 := List.mem_of_mem_drop hb
        exact begins_pos d b (by obtain ⟨vis, ok⟩ := ok; exact ok.2.2.2.2.2 b hb) (okA_blocks ok b hb2).2 (hc.2 b hb2)
      exact ⟨_, rfl, .inl ⟨rfl, _, SqL.of hL⟩, Dl, _, 0, rfl, rfl, SqL.of hL, _, _, rfl, rfl, reqT (decide_eq_true (by have := cnt; show ((List.count 0 (bs.map fun b => (b.map (least e d)).sum) : Nat) : Int) ≤ 1; omega)) (q F2 H2 e12)⟩
    | .swi n t cs, hc, ok, hT2, hL =>
      refine sq (r_kN rfl hT2 (by dsimp only [ItF.kind]; decide +kernel) (r_kN rfl hT2 (by dsimp only [ItF.kind]; decide +kernel) ?_))
      exact q F2 H2 e12
end
end K6
set_option Elab.async false
set_option linter.all false
set_option maxRecDepth 100000
set_option maxHeartbeats 4000000
namespace K6
open PySem PySem.Spec PyProof.Rows L2
/-! ### names, numbers, checks of lists and blocks -/
abbrev nmsL (d : Nat) (l : List (Itm d)) : List Str := l.flatMap (nms d)
abbrev numsL (d : Nat) (l : List (Itm d)) : Env1 := l.flatMap (nums d)
abbrev chksL (d : Nat) (l : List (Itm d)) : Nat := (l.map (chks d)).sum
abbrev nmsB (d : Nat) (l : List (List (Itm d))) : List Str := l.flatMap fun b => b.flatMap (nms d)
abbrev numsB (d : Nat) (l : List (List (Itm d))) : Env1 := l.flatMap fun b => b.flatMap (nums d)
abbrev chksB (d : Nat) (l : List (List (Itm d))) : Nat := (l.map fun b => (b.map (chks d)).sum).sum
theorem lkY' {k : Str} {v : Int × Int} {r : Env1} : List.lookup k ((k, v) :: r) = some v := by rw [List.lookup_cons, beq_self_eq_true]
theorem keys_sub : ∀ (d : Nat) (x : Itm d) (k : Str), k ∈ (nums d x).map (·.1) → k ∈ nms d x
  | 0, x, _, _ => nomatch (show Empty from x)
  | d + 1, x, k, h => by
    have h : k ∈ (numsB d (ItF.blocks x) ++ ItF.num x).map (·.1) := h
    show k ∈ ItF.name x :: nmsB d (ItF.blocks x)
    rw [List.map_append, List.mem_append] at h
    rcases h with h | h
    · refine List.mem_cons_of_mem _ ?_
      obtain ⟨q, hq, rfl⟩ := List.mem_map.mp h
      obtain ⟨b, hb, hq⟩ := List.mem_flatMap.mp hq
      obtain ⟨y, hy, hq⟩ := List.mem_flatMap.mp hq
      exact List.mem_flatMap.mpr ⟨b, hb, List.mem_flatMap.mpr ⟨y, hy, keys_sub d y _ (List.mem_map.mpr ⟨q, hq, rfl⟩)⟩⟩
    · match x, h with
      | .pl (.number y s o l h'), h =>
        obtain ⟨q, hq, rfl⟩ := List.mem_map.mp h
        rw [List.mem_singleton.mp hq]
        exact List.mem_cons_self
      | .pl (.bytes _ _), h => cases h
      | .pl (.text _ _ _), h => cases h
      | .pl (.check _ _), h => cases h
      | .pl (.pad _ _ _), h => cases h
      | .rep _ _ _, h => cases h
      | .eit _ _, h => cases h
      | .swi _ _ _, h => cases h
theorem keys_subL {d : Nat} {l : List (Itm d)} {k : Str} (h : k ∈ (numsL d l).map (·.1)) : k ∈ nmsL d l := by
  obtain ⟨q, hq, rfl⟩ := List.mem_map.mp h
  obtain ⟨y, hy, hq⟩ := List.mem_flatMap.mp hq
  exact List.mem_flatMap.mpr ⟨y, hy, keys_sub d y _ (List.mem_map.mpr ⟨q, hq, rfl⟩)⟩
theorem sum_le {α : Type} {f g : α → Nat} : ∀ {l : List α}, (∀ x ∈ l, f x ≤ g x) → (l.map f).sum ≤ (l.map g).sum
  | [], _ => Nat.le_refl _
  | x :: l, h => by
    rw [List.map_cons, List.map_cons, List.sum_cons, List.sum_cons]
    have h1 := h x List.mem_cons_self
    have h2 := sum_le (l := l) fun y hy => h y (List.mem_cons_of_mem _ hy)
    omega
theorem flat_le {α β γ : Type} {f : α → List β} {g : α → List γ} {l : List α} (h : ∀ x ∈ l, (f x).length ≤ (g x).length) : (l.flatMap f).length ≤ (l.flatMap g).length := by
  rw [List.length_flatMap, List.length_flatMap]
  exact sum_le h
theorem num_le {α : Type} (x : ItF α) : (ItF.num x).length ≤ 1 := by
  match x with
  | .pl (.number y sz o lo hi) => exact Nat.le_refl _
  | .pl (.bytes _ _) => exact Nat.zero_le _
  | .pl (.text _ _ _) => exact Nat.zero_le _
  | .pl (.check _ _) => exact Nat.zero_le _
  | .pl (.pad _ _ _) => exact Nat.zero_le _
  | .rep _ _ _ => exact Nat.zero_le _
  | .eit _ _ => exact Nat.zero_le _
  | .swi _ _ _ => exact Nat.zero_le _
theorem nums_le : ∀ (d : Nat) (x : Itm d), (nums d x).length ≤ (nms d x).length
  | 0, x => nomatch (show Empty from x)
  | d + 1, x => by
    show (numsB d (ItF.blocks x) ++ ItF.num x).length ≤ (ItF.name x :: nmsB d (ItF.blocks x)).length
    rw [List.length_append, List.length_cons]
    have h1 := num_le x
    have h2 : (numsB d (ItF.blocks x)).length ≤ (nmsB d (ItF.blocks x)).length := flat_le fun b _ => flat_le fun y _ => nums_le d y
    omega
theorem numOf_le (d : Nat) (x : Itm (d + 1)) : (numOf (d + 1) x).length ≤ (nms (d + 1) x).length := by
  have := num_le x
  show (ItF.num x).length ≤ (ItF.name x :: nmsB d (ItF.blocks x)).length
  rw [List.length_cons]
  omega
/-! ### loops over a list or a tuple -/
def Lp (J : It) (g : TG) (tb : TS) (D : Ends) (σ : L2.St) (H : Hp) : Prop := ∃ W : Nat → Nat → L2.St → Hp → Prop, (∃ m, W 0 m σ H) ∧ ∀ i m σ H, W i m σ H →
      (J.stop i H ∧ D.nx σ H) ∨ (J.go i H ∧ ∃ N : L2.St → Hp → Prop, (∀ σ' H', N σ' H' → ∃ m', m' < m ∧ W (i + 1) m' σ' H') ∧ ∀ x H', J.yld i H x H' → g x σ H' fun σ2 H2 => tb { D with nx := N, ct := N, bk := D.nx } σ2 H2)
theorem for_seq {K : PySem.W.Frag} {z : Bool} {a : Addr} {xs : List V} {g : TG} {tb : TS} {D : Ends} {σ : L2.St} {H : Hp} (Pv : Nat → L2.St → Hp → Prop) (h0 : Pv 0 σ H) (hl : ∀ i σ H, i ≤ xs.length → Pv i σ H → H a = some (bx z xs))
    (hs : ∀ (i : Nat) x σ H, xs[i]? = some x → Pv i σ H → g x σ H fun σ2 H2 => tb { D with nx := Pv (i + 1), ct := Pv (i + 1), bk := D.nx } σ2 H2) (hd : ∀ σ H, Pv xs.length σ H → D.nx σ H) :
    ((∃ xs, SqL K H a xs) ∧ Lp (Itl K a) g tb D σ H) ∨ ((∃ xs, SqT K H a xs) ∧ Lp (Itt K a) g tb D σ H) := by
  cases z with
  | false =>
    refine .inl ⟨⟨xs, SqL.of (hl 0 σ H (Nat.zero_le _) h0)⟩, fun i m σ H => i + m = xs.length ∧ Pv i σ H, ⟨xs.length, Nat.zero_add _, h0⟩, ?_⟩
    rintro i m σ H ⟨him, hp⟩
    have hq : SqL K H a xs := SqL.of (hl i σ H (by omega) hp)
    cases m with
    | zero =>
      have : i = xs.length := by omega
      subst this
      exact .inl ⟨⟨xs, hq, Nat.le_refl _⟩, hd σ H hp⟩
    | succ m =>
      have hi : i < xs.length := by omega
      refine .inr ⟨⟨xs, xs[i], hq, List.getElem?_eq_getElem hi⟩, Pv (i + 1), fun σ' H' h => ⟨m, Nat.lt_succ_self _, by omega, h⟩, ?_⟩
      rintro v H' ⟨rfl, hx⟩
      exact hs i v σ H' (hx xs hq) hp
  | true =>
    refine .inr ⟨⟨xs, SqT.of (hl 0 σ H (Nat.zero_le _) h0)⟩, fun i m σ H => i + m = xs.length ∧ Pv i σ H, ⟨xs.length, Nat.zero_add _, h0⟩, ?_⟩
    rintro i m σ H ⟨him, hp⟩
    have hq : SqT K H a xs := SqT.of (hl i σ H (by omega) hp)
    cases m with
    | zero =>
      have : i = xs.length := by omega
      subst this
      exact .inl ⟨⟨xs, hq, Nat.le_refl _⟩, hd σ H hp⟩
    | succ m =>
      have hi : i < xs.length := by omega
      refine .inr ⟨⟨xs, xs[i], hq, List.getElem?_eq_getElem hi⟩, Pv (i + 1), fun σ' H' h => ⟨m, Nat.lt_succ_self _, by omega, h⟩, ?_⟩
      rintro v H' ⟨rfl, hx⟩
      exact hs i v σ H' (hx xs hq) hp
/-- a list cut where an element stands -/
theorem cut_at {α : Type} {l : List α} {i : Nat} {x : α} (h : l[i]? = some x) : ∃ r, l = l.take i ++ x :: r ∧ l.take (i + 1) = l.take i ++ [x] := by
  have hi := (List.getElem?_eq_some_iff.mp h).1
  have e : l[i] = x := (List.getElem?_eq_some_iff.mp h).2
  refine ⟨l.drop (i + 1), ?_, ?_⟩
  · rw [← e, ← List.drop_eq_getElem_cons hi, List.take_append_drop]
  · rw [List.take_add_one, h]
    rfl
theorem okL_app {d : Nat} {ok : Env1 → Itm d → Prop} {vis : Env1} : ∀ {p r : List (Itm d)}, OkL ok vis (p ++ r) → OkL ok (vis ++ p.flatMap (numOf d)) r
  | [], r, h => by rw [List.flatMap_nil, List.append_nil]; exact h
  | x :: p, r, h => by
    have := okL_app (p := p) (r := r) h.2
    rw [List.flatMap_cons, ← List.append_assoc]
    exact this
section
variable {P : Program} {w : World} {K : PySem.W.Frag} {mg : Str → Option Value} {base : Heap} {f : Addr} {fd : FuncData}
theorem parts_in (T : Tx w K mg) {q : Str × Int} (h : q ∈ partsTab) : ∃ r, PySem.W.nsIn K (He.ga K "PARTS") q.1 = some (some r) ∧ KDct K w (He.ga K "PARTS") q.1 (.int q.2) := by
  obtain ⟨u, h1, h2⟩ := T.pIn q h
  obtain ⟨es, n, D⟩ := T.dP
  exact ⟨u, h1, es, n, u, D.1, D.2, h1, h2⟩
theorem part_of {d : Nat} (x : Itm (d + 1)) (w' : V) : (ItF.kind x, ((.str (ItF.kind x) :: .str (ItF.name x) :: ItF.tail x w' : List V).length : Int)) ∈ partsTab := by
  match x with
  | .pl (.number _ _ _ _ _) => exact (by decide +kernel : (("number" : Str), (6 : Int)) ∈ partsTab)
  | .pl (.bytes _ _) => exact (by decide +kernel : (("bytes" : Str), (3 : Int)) ∈ partsTab)
  | .pl (.text _ _ _) => exact (by decide +kernel : (("text" : Str), (4 : Int)) ∈ partsTab)
  | .pl (.check _ _) => exact (by decide +kernel : (("check" : Str), (3 : Int)) ∈ partsTab)
  | .pl (.pad _ _ _) => exact (by decide +kernel : (("pad" : Str), (4 : Int)) ∈ partsTab)
  | .rep _ _ _ => exact (by decide +kernel : (("repeat" : Str), (4 : Int)) ∈ partsTab)
  | .eit _ _ => exact (by decide +kernel : (("either" : Str), (3 : Int)) ∈ partsTab)
  | .swi _ _ _ => exact (by decide +kernel : (("switch" : Str), (4 : Int)) ∈ partsTab)
theorem ok_block {d : Nat} {vis : Env1} {x : Itm (d + 1)} (h : OkI (d + 1) vis x) : ∀ b ∈ ItF.blocks x, 1 ≤ d ∧ b.length ≤ 12 ∧ OkL (OkI d) vis b := by
  match x, h with
  | .pl p, _ => exact fun b hb => nomatch hb
  | .rep n u b, h =>
    intro b' hb'
    rw [List.mem_singleton.mp hb']
    exact ⟨h.2.1, h.2.2.2.2.1, h.2.2.2.2.2⟩
  | .eit n bs, h => exact fun b hb => ⟨h.2.1, (h.2.2.2.2.1 b hb).1, (h.2.2.2.2.1 b hb).2⟩
  | .swi n t cs, h =>
    intro b hb
    obtain ⟨c, hc, rfl⟩ := List.mem_map.mp hb
    have q := h.2.2.2.2.2.2 c hc
    exact ⟨h.2.1, q.2.1, q.2.2⟩
theorem closed_of {d : Nat} {vis e : Env1} {x : Itm (d + 1)} (h : OkI (d + 1) vis x) (hv : ∀ q ∈ vis, e.lookup q.1 = some q.2) (hb : ∀ b ∈ ItF.blocks x, ∀ y ∈ b, Closed e d y) : Closed e (d + 1) x := by
  match x, h, hb with
  | .pl (.number _ _ _ _ _), _, _ => trivial
  | .pl (.bytes _ u), h, _ => exact (useC_of hv (Int.le_refl _) (show UseOk vis 64 u from h.2)).1
  | .pl (.text _ _ _), _, _ => trivial
  | .pl (.check _ _), _, _ => trivial
  | .pl (.pad _ _ _), _, _ => trivial
  | .rep n u b, h, hb => exact ⟨(useC_of hv (by decide) (show UseOk vis 16 u from h.2.2.1)).1, hb b (List.mem_singleton.mpr rfl)⟩
  | .eit n bs, h, hb =>
    refine ⟨fun z => ?_, hb⟩
    have h2 : 2 ≤ bs.length := h.2.2.1
    rw [z, List.length_nil] at h2
    omega
  | .swi n t cs, h, hb =>
    refine ⟨fun z => ?_, fun c hc => hb c.2 (List.mem_map.mpr ⟨c, hc, rfl⟩)⟩
    have h2 : 1 ≤ cs.length := h.2.2.2.1
    rw [z, List.length_nil] at h2
    omega
theorem num_or {α : Type} (x : ItF α) : (∃ y sz o lo hi, x = .pl (.number y sz o lo hi)) ∨ (ItF.num x = [] ∧ ItF.kind x ≠ "number") := by
  match x with
  | .pl (.number y sz o lo hi) => exact .inl ⟨y, sz, o, lo, hi, rfl⟩
  | .pl (.bytes _ _) => exact .inr ⟨rfl, by dsimp only [ItF.kind, Plain.kind]; decide +kernel⟩
  | .pl (.text _ _ _) => exact .inr ⟨rfl, by dsimp only [ItF.kind, Plain.kind]; decide +kernel⟩
  | .pl (.check _ _) => exact .inr ⟨rfl, by dsimp only [ItF.kind, Plain.kind]; decide +kernel⟩
  | .pl (.pad _ _ _) => exact .inr ⟨rfl, by dsimp only [ItF.kind, Plain.kind]; decide +kernel⟩
  | .rep _ _ _ => exact .inr ⟨rfl, by dsimp only [ItF.kind]; decide +kernel⟩
  | .eit _ _ => exact .inr ⟨rfl, by dsimp only [ItF.kind]; decide +kernel⟩
  | .swi _ _ _ => exact .inr ⟨rfl, by dsimp only [ItF.kind]; decide +kernel⟩
theorem keys_subB {d : Nat} {l : List (List (Itm d))} {k : Str} (h : k ∈ (numsB d l).map (·.1)) : k ∈ nmsB d l := by
  obtain ⟨q, hq, rfl⟩ := List.mem_map.mp h
  obtain ⟨b, hb, hq⟩ := List.mem_flatMap.mp hq
  exact List.mem_flatMap.mpr ⟨b, hb, keys_subL (List.mem_map.mpr ⟨q, hq, rfl⟩)⟩
/-! ### check_items -/
def spItems (K : PySem.W.Frag) (d : Nat) : Sp := fun vs H Q _ => ∃ (F : Hp) (self nl nd vl : Addr) (ns : List Str) (e : Env1) (c : Int) (v : V) (l : List (Itm d)) (vis : Env1) (dp : Int), vs = [.ref self, v, .ref vl, .int dp] ∧
  Ck (CC K) F H self nl nd ns e c ∧ IsIts false F d v l ∧ H vl = some (.lst (visV vis)) ∧ l.length ≤ 12 ∧ 1 ≤ d ∧ 0 ≤ dp ∧ dp + d ≤ 4 ∧ OkL (OkI d) vis l ∧ (∀ q ∈ vis, e.lookup q.1 = some q.2) ∧ (∀ k ∈ e.map (·.1), k ∈ ns) ∧ e.length ≤ ns.length ∧ vis.length ≤ ns.length ∧
  (ns ++ nmsL d l).Nodup ∧ (ns ++ nmsL d l).length ≤ 30 ∧ 0 ≤ c ∧ c + chksL d l ≤ 1 ∧
  ∀ F' H', Eff [self, nl, nd] F H F' H' → Ck (CC K) F' H' self nl nd (ns ++ nmsL d l) (e ++ numsL d l) (c + chksL d l) → (∀ y ∈ l, Closed (e ++ numsL d l) d y) → Q .non H'
abbrev s_ShapeCheck_check_items : Stmt := inClass (top 31) 2
abbrev N_ShapeCheck_check_items : List Str := ["self", "items", "visible", "depth", "inner", "item", "block"]
theorem sc_ShapeCheck_check_items : FnScope N_ShapeCheck_check_items ["self", "items", "visible", "depth"] (defScope s_ShapeCheck_check_items) := ⟨rfl, rfl, rfl, by decide +kernel, rfl, by decide +kernel, by decide +kernel⟩
theorem b_ShapeCheck_check_items (kV doc pm : Value) (an : Option Addr) (cdv ct : Value) (us : List Value) (hl : us.length = (["self", "items", "visible", "depth"] : List Str).length) : bindArgs (PySem.W.fnOf "check_items" "ShapeCheck.check_items" (defArgs s_ShapeCheck_check_items) (defBody s_ShapeCheck_check_items) (defScope s_ShapeCheck_check_items) .none kV doc pm an cdv ct) ⟨us, []⟩ = pure ((["self", "items", "visible", "depth"] : List Str).zip us) := match us, hl with | [_, _, _, _], _ => rfl
theorem ok_check_items {d k : Nat} (F : Fun K "check_items" "ShapeCheck.check_items" s_ShapeCheck_check_items f fd) (T : Tx w K mg) (F_require : Mc P w K mg base 1 (CC K) "require" spRequire) (F_is_name : Fc P w K mg base 1 "is_name" spIsName) (F_blocks_of : Fc P w K mg base 1 "blocks_of" spBlocks)
    (F_check_plain : Mc P w K mg base 2 (CC K) "check_plain" (spPlain K)) (F_check_uses : Mc P w K mg base 2 (CC K) "check_uses" (spUses K)) (F_check_items : Mc P w K mg base k (CC K) "check_items" (spItems K d)) (F_check_lengths : Mc P w K mg base k (CC K) "check_lengths" (spLengths K d)) (hk2 : 2 ≤ k) :
    FnR P w K mg base CX0 (k + 1) f (spItems K (d + 1)) := by
  refine raw_of F sc_ShapeCheck_check_items b_ShapeCheck_check_items (fun vs H Q E h => by obtain ⟨_, _, _, _, _, _, _, _, _, _, _, _, rfl, _⟩ := h; rfl) (fun cdv A outer s H vs Q E hr h => ?_)
  obtain ⟨F, self, nl, nd, vl, ns, e, c, v, l, vis, dp, rfl, ck, hl, hvl, l12, d1, dp0, dp4, ok, hv, hk, hle, hlv, hN, hL, c0, c1, q⟩ := h
  refine ⟨_, (pss_cons (ps_expr (pe_mt (pv 0) T.c_ShapeCheck F_require (hr.mono (by omega)) (pa_cons (pe_and (pe_cmpR op_le (pe_callB call_len_seq (by rfl) T.f_len PySem.boot_len (pa_cons (pv 1) pa_nil)) (pe_gint T.i_MOST_ITEMS) (nomark _)) (pe_one (pe_cmpR op_le (pv 3) (pe_gint T.i_MOST_DEPTH) (nomark _)))) pa_nil)))
    (pss_cons (ps_set (i := 4) sc_ShapeCheck_check_items.nd rfl (by first | exact Or.inl rfl | exact Or.inr rfl) (pe_callTy call_list_of (by rfl) T.f_list (by decide +kernel) (pa_cons (pv 2) pa_nil)))
    (pss_one (ps_for PassesOwn.never rfl (pi_seq (pv 1)) (pg_name (i := 5) sc_ShapeCheck_check_items.nd rfl (by first | exact Or.inl rfl | exact Or.inr rfl))
      (pss_cons (ps_expr (pe_mt (pv 0) T.c_ShapeCheck F_require (hr.mono (by omega)) (pa_cons (pe_and (pe_cmpR op_gt (pe_callB call_len_seq (by rfl) T.f_len PySem.boot_len (pa_cons (pv 5) pa_nil)) pe_int (nomark _)) (pe_and (pe_cmpR (op_inP T.dP) (pe_ix ix_tup (pv 5) pe_int (fun _ _ => rfl)) (pe_gref T.g_PARTS) (by rfl)) (pe_one (pe_cmpR op_eq (pe_callB call_len_seq (by rfl) T.f_len PySem.boot_len (pa_cons (pv 5) pa_nil)) (pe_ix ix_kdict (pe_gref T.g_PARTS) (pe_ix ix_tup (pv 5) pe_int (fun _ _ => rfl)) (fun _ _ => rfl)) (nomark _))))) pa_nil)))
      (pss_cons (ps_expr (pe_mt (pv 0) T.c_ShapeCheck F_require (hr.mono (by omega)) (pa_cons (pe_and (pe_cl F_is_name (hr.mono (by omega)) (pa_cons (pe_ix ix_tup (pv 5) pe_int (fun _ _ => rfl)) pa_nil)) (pe_and (pe_cmpR op_notIn_seq (pe_ix ix_tup (pv 5) pe_int (fun _ _ => rfl)) (pe_fld (pv 0) (by rfl)) (by rfl)) (pe_one (pe_cmpR op_lt (pe_callB call_len_seq (by rfl) T.f_len PySem.boot_len (pa_cons (pe_fld (pv 0) (by rfl)) pa_nil)) (pe_gint T.i_MOST_NAMES) (nomark _))))) pa_nil)))
      (pss_cons (ps_expr (pe_bm PySem.F.plainAttrs_list PySem.F.slot_list_append PySem.F.type_list_append mt_append (pe_fld (pv 0) (by rfl)) (pa_cons (pe_ix ix_tup (pv 5) pe_int (fun _ _ => rfl)) pa_nil)))
      (pss_cons (ps_expr (pe_mt (pv 0) T.c_ShapeCheck F_check_plain (hr.mono (by omega)) (pa_cons (pv 5) pa_nil)))
      (pss_cons (ps_expr (pe_mt (pv 0) T.c_ShapeCheck F_check_uses (hr.mono (by omega)) (pa_cons (pv 5) (pa_cons (pv 4) pa_nil))))
      (pss_cons (ps_for PassesOwn.never rfl (pi_seq (pe_cl F_blocks_of (hr.mono (by omega)) (pa_cons (pv 5) pa_nil))) (pg_name (i := 6) sc_ShapeCheck_check_items.nd rfl (by first | exact Or.inl rfl | exact Or.inr rfl))
        (pss_one (ps_expr (pe_mt (pv 0) T.c_ShapeCheck F_check_items (hr.mono (by omega)) (pa_cons (pv 6) (pa_cons (pv 4) (pa_cons (pe_op op_add (pv 3) pe_int) pa_nil)))))))
      (pss_cons (ps_expr (pe_mt (pv 0) T.c_ShapeCheck F_check_lengths (hr.mono (by omega)) (pa_cons (pv 5) pa_nil)))
      (pss_one (ps_if (pt_cmpR op_eq (pe_ix ix_tup (pv 5) pe_int (fun _ _ => rfl)) pe_str (nomark _))
        (pss_cons (ps_dput (hu_of hr) (pe_fld (pv 0) (by rfl)) (pe_ix ix_tup (pv 5) pe_int (fun _ _ => rfl)) (pe_tup (pa_cons (pe_ix ix_tup (pv 5) pe_int (fun _ _ => rfl)) (pa_cons (pe_ix ix_tup (pv 5) pe_int (fun _ _ => rfl)) pa_nil))) (by rfl))
        (pss_one (ps_expr (pe_bm PySem.F.plainAttrs_list PySem.F.slot_list_append PySem.F.type_list_append mt_append (pv 4) (pa_cons (pe_ix ix_tup (pv 5) pe_int (fun _ _ => rfl)) pa_nil)))))
        pss_nil))))))))))))), ?_⟩
  obtain ⟨dx, ho⟩ := ck.obj
  obtain ⟨a, vs, rfl, ha, hp, hlen⟩ := hl
  have hlen2 := paired_len hp
  have hS : SqL K H a vs := SqL.of (ck.sub _ _ ha)
  refine sq (r_req rfl ho ckf_require ?_)
  refine ⟨_, rfl, a, _, rfl, .inl hS, _, _, rfl, rfl, ckT (decide_eq_true (by omega)) ⟨_, rfl, _, _, rfl, rfl, reqT (decide_eq_true (by omega)) ?_⟩⟩
  dsimp only
  refine sq ⟨_, rfl, vl, _, rfl, .inl (SqL.of hvl), fun il hil => ?_⟩
  have nil1 : il ≠ self := (ne_of_none ho hil).symm
  have nil2 : il ≠ nl := (ne_of_none ck.lst hil).symm
  have nil3 : il ≠ nd := by
    obtain ⟨kvs, h4, _⟩ := ck.dic
    exact (ne_of_none h4 hil).symm
  have fil : F il = none := ck.sub.free hil
  refine sq ⟨_, rfl, a, rfl, for_seq (z := false) (xs := vs) (fun i σ H' => ∃ v5 v6 F', σ = [some (.ref self), some (.ref a), some (.ref vl), some (.int dp), some (.ref il), v5, v6] ∧ Eff [self, nl, nd] F H F' H' ∧ F' il = none ∧ H' il = some (.lst (visV (vis ++ (l.take i).flatMap (numOf (d + 1))))) ∧
    Ck (CC K) F' H' self nl nd (ns ++ nmsL (d + 1) (l.take i)) (e ++ numsL (d + 1) (l.take i)) (c + chksL (d + 1) (l.take i)) ∧ (∀ y ∈ l.take i, Closed (e ++ numsL (d + 1) (l.take i)) (d + 1) y) ∧ ∀ q ∈ vis ++ (l.take i).flatMap (numOf (d + 1)), (e ++ numsL (d + 1) (l.take i)).lookup q.1 = some q.2) ?_ ?_ ?_ ?_⟩
  · refine ⟨_, _, F, rfl, (Eff.refl ck.sub).loc hil, fil, ?_, ?_, ?_, ?_⟩
    · rw [List.take_zero, List.flatMap_nil, List.append_nil]
      exact upd_same
    · rw [List.take_zero]
      show Ck (CC K) F _ self nl nd (ns ++ []) (e ++ []) (c + ((0 : Nat) : Int))
      rw [List.append_nil, List.append_nil, show c + ((0 : Nat) : Int) = c from Int.add_zero c]
      exact ck.other nil1 nil2 nil3 fil
    · intro y hy
      cases hy
    · rw [List.take_zero, List.flatMap_nil, List.append_nil]
      show ∀ q ∈ vis, (e ++ []).lookup q.1 = some q.2
      rw [List.append_nil]
      exact hv
  · rintro i σ H1 _ ⟨_, _, F1, _, e1, _⟩
    exact e1.sub _ _ (e1.same _ _ ha)
  · rintro i y σ H1 hy ⟨v5, v6, F1, rfl, e1, fil1, hil1, ck1, cl1, hv1⟩
    obtain ⟨x, hx, hit⟩ := paired_at hp hy
    obtain ⟨r, hlr, htk⟩ := cut_at hx
    have okx : OkI (d + 1) (vis ++ (l.take i).flatMap (numOf (d + 1))) x := by
      rw [hlr] at ok
      exact (okL_app ok).1
    rw [htk]
    generalize hpre : l.take i = pre at *
    have hit1 := isIt_mono e1.same (d + 1) _ _ hit
    obtain ⟨b, w', eb, hb⟩ := isIt_tup hit1
    subst eb
    have hN1 : ((ns ++ nmsL (d + 1) pre) ++ (ItF.name x :: nmsB d (ItF.blocks x) ++ nmsL (d + 1) r)).Nodup := by
      have z := hN
      rw [hlr, show nmsL (d + 1) (pre ++ x :: r) = nmsL (d + 1) pre ++ (nms (d + 1) x ++ nmsL (d + 1) r) by rw [nmsL, List.flatMap_append, List.flatMap_cons], ← List.append_assoc] at z
      exact z
    have hL1 : ((ns ++ nmsL (d + 1) pre) ++ (ItF.name x :: nmsB d (ItF.blocks x) ++ nmsL (d + 1) r)).length ≤ 30 := by
      have z := hL
      rw [hlr, show nmsL (d + 1) (pre ++ x :: r) = nmsL (d + 1) pre ++ (nms (d + 1) x ++ nmsL (d + 1) r) by rw [nmsL, List.flatMap_append, List.flatMap_cons], ← List.append_assoc] at z
      exact z
    have hC1 : c + chksL (d + 1) pre + (chksB d (ItF.blocks x) + ItF.chk x : Nat) ≤ 1 := by
      have z := c1
      rw [hlr, show chksL (d + 1) (pre ++ x :: r) = chksL (d + 1) pre + (chks (d + 1) x + chksL (d + 1) r) by rw [chksL, List.map_append, List.sum_append, List.map_cons, List.sum_cons]] at z
      have z2 : chks (d + 1) x = chksB d (ItF.blocks x) + ItF.chk x := rfl
      omega
    have e2s : ns ++ nmsL (d + 1) (pre ++ [x]) = (ns ++ nmsL (d + 1) pre ++ [ItF.name x]) ++ nmsB d (ItF.blocks x) := by
      rw [nmsL, List.flatMap_append, List.flatMap_singleton, show nms (d + 1) x = ItF.name x :: nmsB d (ItF.blocks x) from rfl, List.append_assoc, List.append_assoc]
      rfl
    have e2e : e ++ numsL (d + 1) (pre ++ [x]) = (e ++ numsL (d + 1) pre) ++ numsB d (ItF.blocks x) ++ ItF.num x := by
      rw [numsL, List.flatMap_append, List.flatMap_singleton, show nums (d + 1) x = numsB d (ItF.blocks x) ++ ItF.num x from rfl, List.append_assoc, List.append_assoc]
    have e2c : c + (chksL (d + 1) (pre ++ [x]) : Nat) = (c + chksL (d + 1) pre) + ItF.chk x + chksB d (ItF.blocks x) := by
      have z1 : chksL (d + 1) (pre ++ [x]) = chksL (d + 1) pre + chks (d + 1) x := by
        rw [chksL, List.map_append, List.sum_append, List.map_cons, List.map_nil, List.sum_cons, List.sum_nil]
        rfl
      have z2 : chks (d + 1) x = chksB d (ItF.blocks x) + ItF.chk x := rfl
      rw [z1, z2]
      omega
    have e2v : vis ++ (pre ++ [x]).flatMap (numOf (d + 1)) = (vis ++ pre.flatMap (numOf (d + 1))) ++ ItF.num x := by
      rw [List.flatMap_append, List.flatMap_singleton, List.append_assoc]
      rfl
    have hk1 : ∀ k ∈ (e ++ numsL (d + 1) pre).map (·.1), k ∈ ns ++ nmsL (d + 1) pre := by
      intro k h
      rw [List.map_append, List.mem_append] at h
      rcases h with h | h
      · exact List.mem_append_left _ (hk k h)
      · exact List.mem_append_right _ (keys_subL h)
    rw [e2s, e2e, e2c, e2v]
    have hle1 : (e ++ numsL (d + 1) pre).length ≤ (ns ++ nmsL (d + 1) pre).length := by
      rw [List.length_append, List.length_append]
      exact Nat.add_le_add hle (flat_le fun y _ => nums_le _ y)
    have hlv1 : (vis ++ pre.flatMap (numOf (d + 1))).length ≤ (ns ++ nmsL (d + 1) pre).length := by
      rw [List.length_append, List.length_append]
      exact Nat.add_le_add hlv (flat_le fun y _ => numOf_le _ y)
    have c01 : 0 ≤ c + (chksL (d + 1) pre : Nat) := by omega
    generalize ns ++ nmsL (d + 1) pre = ns1 at *
    generalize e ++ numsL (d + 1) pre = en1 at *
    generalize c + (chksL (d + 1) pre : Nat) = cn1 at *
    generalize vis ++ pre.flatMap (numOf (d + 1)) = vis1 at *
    obtain ⟨dx1, ho1⟩ := ck1.obj
    have hT : SqT K H1 b _ := SqT.of (ck1.sub _ _ hb)
    obtain ⟨pr, hp1, hp2⟩ := parts_in T (part_of x w')
    refine sq (r_req rfl ho1 ckf_require ?_)
    refine ⟨_, rfl, b, _, rfl, .inr hT, _, _, rfl, rfl, ckT (decide_eq_true (by rw [List.length_cons, List.length_cons]; omega)) ⟨_, rfl, b, _, _, _, rfl, rfl, hT, at0, _, _, rfl, rfl, hp1, ckT rfl ?_⟩⟩
    refine ⟨_, rfl, b, _, rfl, .inr hT, _, rfl, b, _, _, _, rfl, rfl, hT, at0, _, _, _, rfl, rfl, hp2, rfl, reqT (decide_eq_true rfl) ?_⟩
    dsimp only
    refine sq (r_req rfl ho1 ckf_require ?_)
    have nmB : isNameB (ItF.name x) = true := okx.1
    have nmL : (ItF.name x).length ≤ 1000 := by
      have z := nmB
      simp only [isNameB, Bool.and_eq_true, decide_eq_true_eq] at z
      have := z.1.1.2
      omega
    have nmN : ItF.name x ∉ ns1 := fun z => (List.nodup_append.mp hN1).2.2 _ z _ (by simp) rfl
    have nmC : ns1.length < 30 := by
      rw [List.length_append, List.length_append, List.length_cons] at hL1
      omega
    refine ⟨_, rfl, b, _, _, _, rfl, rfl, hT, at1, _, rfl, nmL, fun H2 s2 => ckT nmB ?_⟩
    have e2 : Eff [] F1 H1 F1 H2 := Eff.of_same ck1.sub s2
    have ck2 := ck1.pure e2
    obtain ⟨dx2, ho2⟩ := ck2.obj
    have hT2 := sqT_same s2 hT
    refine ⟨_, rfl, b, _, _, _, rfl, rfl, hT2, at1, _, rfl, self, _, dx2, _, _, rfl, ho2, T.c_ShapeCheck, T.n_ShapeCheck_names, ckf_names, nl, _, rfl, .inl (SqL.of ck2.lst), rfl, flat_str _, ckT ?_ ?_⟩
    · show (!inV _ _) = true
      rw [inV_str, decide_eq_false nmN]
      rfl
    refine ⟨_, rfl, self, _, dx2, _, _, rfl, ho2, T.c_ShapeCheck, T.n_ShapeCheck_names, ckf_names, nl, _, rfl, .inl (SqL.of ck2.lst), _, _, rfl, rfl, reqT (decide_eq_true (by rw [List.length_map]; omega)) ?_⟩
    dsimp only
    refine sq ⟨_, rfl, self, _, dx2, _, _, rfl, ho2, T.c_ShapeCheck, T.n_ShapeCheck_names, ckf_names, .inl ⟨rfl, _, SqL.of ck2.lst⟩, _, rfl, b, _, _, _, rfl, rfl, hT2, at1, nl, _, _, rfl, rfl, ck2.lst, small (by rw [List.length_map]; omega), ?_⟩
    dsimp only
    have ck3 := ck2.addName (ItF.name x)
    have e3 : Eff [self, nl, nd] F H F1 (upd H2 nl (.lst (ns1.map V.str ++ [.str (ItF.name x)]))) := (e1.pure e2).wr ck2.fl (.inl (by simp))
    have hil2 : H2 il = _ := s2 _ _ hil1
    have hil3 : (upd H2 nl (.lst (ns1.map V.str ++ [.str (ItF.name x)]))) il = _ := (upd_ne nil2).trans hil2
    obtain ⟨dx3, ho3⟩ := ck3.obj
    have cc : ItF.chk x = 1 → cn1 = 0 := by omega
    refine sq ⟨_, rfl, self, dx3, _, rfl, ho3, ckf_plain, _, rfl, F1, self, nl, nd, _, _, _, d, _, x, vis1, rfl, ck3, hit1, okx, cc, fun F4 H4 e4 ck4 => ?_⟩
    dsimp only
    have e34 : Eff [self, nl, nd] F H F4 H4 := e3.call e4 (by intro m hm; rw [List.mem_singleton.mp hm]; exact .inl (by simp))
    have fil4 : F4 il = none := e4.fresh _ fil1 (by rw [hil3]; intro z; cases z)
    have hil4 : H4 il = _ := e4.keep _ _ hil3 (by intro z; exact nil1 (List.mem_singleton.mp z))
    obtain ⟨dx4, ho4⟩ := ck4.obj
    refine sq ⟨_, rfl, self, dx4, _, rfl, ho4, ckf_uses, _, rfl, _, rfl, F4, self, nl, nd, il, _, _, _, d, _, x, vis1, rfl, ck4, isIt_mono e4.same (d + 1) _ _ hit1, okx, hil4, hv1, fun H5 s5 => ?_⟩
    dsimp only
    have e5 : Eff [] F4 H4 F4 H5 := Eff.of_same ck4.sub s5
    have ck5 := ck4.pure e5
    have hil5 : H5 il = _ := s5 _ _ hil4
    have hit5 := isIt_mono e4.same (d + 1) _ _ hit1
    refine sq ⟨_, rfl, false, F4, d, _, x, rfl, ck5.sub, hit5, fun rb ws F6 H6 e6 hrb hpb hlb => ⟨rb, rfl, for_seq (z := false) (xs := ws) (fun j σ H' => ∃ v6 F', σ = [some (.ref self), some (.ref a), some (.ref vl), some (.int dp), some (.ref il), some (.ref b), v6] ∧ Eff [self, nl, nd] F H F' H' ∧ Same F6 F' ∧ F' il = none ∧ H' il = some (.lst (visV vis1)) ∧
      Ck (CC K) F' H' self nl nd (ns1 ++ [ItF.name x] ++ nmsB d ((ItF.blocks x).take j)) (en1 ++ numsB d ((ItF.blocks x).take j)) (cn1 + ItF.chk x + chksB d ((ItF.blocks x).take j)) ∧ ∀ bb ∈ (ItF.blocks x).take j, ∀ y ∈ bb, Closed (en1 ++ numsB d ((ItF.blocks x).take j)) d y) ?_ ?_ ?_ ?_⟩⟩
    · have ck6 := ck5.pure e6
      refine ⟨_, F6, rfl, (e34.pure e5).pure e6, fun _ _ h => h, e6.fresh _ (e5.fresh _ fil4 (by rw [hil4]; intro z; cases z)) (by rw [hil5]; intro z; cases z), e6.all _ _ hil5, ?_, ?_⟩
      · show Ck _ _ _ _ _ _ (ns1 ++ [ItF.name x] ++ []) (en1 ++ []) (cn1 + ItF.chk x + ((0 : Nat) : Int))
        rw [List.append_nil, List.append_nil, show cn1 + ItF.chk x + ((0 : Nat) : Int) = cn1 + ItF.chk x from Int.add_zero _]
        exact ck6
      · intro bb hb
        cases hb
    · rintro j σ H7 _ ⟨_, F7, _, e7, s7, _⟩
      exact e7.sub _ _ (s7 _ _ hrb)
    · rintro j y2 σ H7 hy2 ⟨v6, F7, rfl, e7, s7, fil7, hil7, ck7, cl7⟩
      obtain ⟨bb, hbb, hib⟩ := paired_at hpb hy2
      obtain ⟨rr, hbr, hbt⟩ := cut_at hbb
      obtain ⟨g1, g2, g3⟩ := ok_block okx bb (List.mem_of_getElem? hbb)
      rw [hbt]
      have hN2 : (ns1 ++ [ItF.name x] ++ nmsB d ((ItF.blocks x).take j) ++ nmsL d bb) <+: (ns1 ++ (ItF.name x :: nmsB d (ItF.blocks x) ++ nmsL (d + 1) r)) := by
        refine ⟨nmsB d rr ++ nmsL (d + 1) r, ?_⟩
        have z : nmsB d (ItF.blocks x) = nmsB d ((ItF.blocks x).take j) ++ (nmsL d bb ++ nmsB d rr) := by
          have z1 := congrArg (nmsB d) hbr
          rw [z1, nmsB, List.flatMap_append, List.flatMap_cons]
        rw [z]
        simp only [List.append_assoc, List.cons_append, List.nil_append]
      have hC2 : cn1 + ItF.chk x + (chksB d ((ItF.blocks x).take j) : Nat) + (chksL d bb : Nat) ≤ 1 := by
        have z : chksB d (ItF.blocks x) = chksB d ((ItF.blocks x).take j) + (chksL d bb + chksB d rr) := by
          have z1 := congrArg (chksB d) hbr
          rw [z1, chksB, List.map_append, List.sum_append, List.map_cons, List.sum_cons]
        omega
      have s1 : nmsB d ((ItF.blocks x).take j ++ [bb]) = nmsB d ((ItF.blocks x).take j) ++ nmsL d bb := by rw [nmsB, List.flatMap_append, List.flatMap_singleton]
      have s2 : numsB d ((ItF.blocks x).take j ++ [bb]) = numsB d ((ItF.blocks x).take j) ++ numsL d bb := by rw [numsB, List.flatMap_append, List.flatMap_singleton]
      have s3 : chksB d ((ItF.blocks x).take j ++ [bb]) = chksB d ((ItF.blocks x).take j) + chksL d bb := by
        rw [chksB, List.map_append, List.sum_append, List.map_cons, List.map_nil, List.sum_cons, List.sum_nil]
        rfl
      rw [s1, s2, s3]
      have hk7 : ∀ k ∈ (en1 ++ numsB d ((ItF.blocks x).take j)).map (·.1), k ∈ ns1 ++ [ItF.name x] ++ nmsB d ((ItF.blocks x).take j) := by
        intro k h
        rw [List.map_append, List.mem_append] at h
        rcases h with h | h
        · exact List.mem_append_left _ (List.mem_append_left _ (hk1 k h))
        · exact List.mem_append_right _ (keys_subB h)
      have hle7 : (en1 ++ numsB d ((ItF.blocks x).take j)).length ≤ (ns1 ++ [ItF.name x] ++ nmsB d ((ItF.blocks x).take j)).length := by
        have z : (numsB d ((ItF.blocks x).take j)).length ≤ (nmsB d ((ItF.blocks x).take j)).length := flat_le fun b _ => flat_le fun y _ => nums_le d y
        simp only [List.length_append, List.length_cons, List.length_nil]
        omega
      have hlv7 : vis1.length ≤ (ns1 ++ [ItF.name x] ++ nmsB d ((ItF.blocks x).take j)).length := by
        simp only [List.length_append, List.length_cons, List.length_nil]
        omega
      generalize (ItF.blocks x).take j = pb at *
      obtain ⟨dx7, ho7⟩ := ck7.obj
      refine ⟨_, rfl, self, dx7, _, rfl, ho7, ckf_items, _, rfl, _, rfl, _, rfl, _, _, rfl, rfl, ?_⟩
      refine ⟨F7, self, nl, nd, il, _, _, _, _, bb, vis1, dp + 1, rfl, ck7, isIts_mono s7 hib, hil7, g2, g1, by omega, by omega, g3, fun q hq => lookup_app (hv1 q hq), hk7, hle7, hlv7, hN1.sublist hN2.sublist, Nat.le_trans hN2.length_le hL1, by omega, hC2, fun F8 H8 e8 ck8 cl8 => ?_⟩
      refine ⟨_, F8, rfl, e7.call e8 (fun m hm => .inl hm), s7.trans e8.same, e8.fresh _ fil7 (by rw [hil7]; intro z; cases z), e8.keep _ _ hil7 (by simp [nil1, nil2, nil3]), ?_, ?_⟩
      · rw [← List.append_assoc, ← List.append_assoc, show cn1 + (ItF.chk x : Int) + ((chksB d pb + chksL d bb : Nat) : Int) = cn1 + ItF.chk x + (chksB d pb : Nat) + (chksL d bb : Nat) by omega]
        exact ck8
      · rw [← List.append_assoc]
        intro b2 hb2 y hy
        rcases List.mem_append.mp hb2 with hb2 | hb2
        · exact closed_mono (sub_app _ _) d y (cl7 b2 hb2 y hy)
        · rw [List.mem_singleton.mp hb2] at hy
          exact cl8 y hy
    · rintro σ H7 ⟨v6, F7, rfl, e7, s7, fil7, hil7, ck7, cl7⟩
      rw [paired_len hpb, List.take_length] at ck7 cl7
      have hv7 : ∀ q ∈ vis1, (en1 ++ numsB d (ItF.blocks x)).lookup q.1 = some q.2 := fun q hq => lookup_app (hv1 q hq)
      have cl8 : Closed (en1 ++ numsB d (ItF.blocks x)) (d + 1) x := closed_of okx hv7 cl7
      obtain ⟨dx7, ho7⟩ := ck7.obj
      have s57 : Same F4 F7 := e6.same.trans s7
      refine sq ⟨_, rfl, self, dx7, _, rfl, ho7, ckf_lengths, _, rfl, F7, self, nl, nd, _, _, _, _, x, rfl, ck7, isIt_mono s57 (d + 1) _ _ hit5, ⟨_, okx⟩, cl8, fun F9 H9 e9 => ?_⟩
      dsimp only
      have ck9 := ck7.pure e9
      have hb9 : F9 b = _ := e9.same _ _ (s57 _ _ (e4.same _ _ hb))
      have hT9 : SqT K H9 b _ := SqT.of (ck9.sub _ _ hb9)
      have e79 := e7.pure e9
      have fil9 : F9 il = none := e9.fresh _ fil7 (by rw [hil7]; intro z; cases z)
      have hil9 : H9 il = _ := e9.all _ _ hil7
      have clF : ∀ {en : Env1}, Sub (en1 ++ numsB d (ItF.blocks x)) en → Sub en1 en → ∀ y ∈ pre ++ [x], Closed en (d + 1) y := by
        intro en hs1 hs2 y hy
        rcases List.mem_append.mp hy with hy | hy
        · exact closed_mono hs2 (d + 1) y (cl1 y hy)
        · rw [List.mem_singleton.mp hy]
          exact closed_mono hs1 (d + 1) x cl8
      rcases num_or x with ⟨y, sz, o, lo, hi, rfl⟩ | ⟨hn, hkx⟩
      · have hbT : F9 b = some (.tup [.str "number", .str y, .int sz, .str o, .int lo, .int hi]) := hb9
        refine r_kY rfl hT9 ?_
        obtain ⟨dx9, ho9⟩ := ck9.obj
        refine sq ⟨_, rfl, b, _, _, _, rfl, rfl, SqT.of (ck9.sub _ _ hbT), at4, _, rfl, b, _, _, _, rfl, rfl, SqT.of (ck9.sub _ _ hbT), at5, (by show 2 ≤ sizeLine; decide), fun t ht => ?_⟩
        have e10 := e79.put ht (o := .tup [.int lo, .int hi])
        have eF : Eff [] F9 H9 (upd F9 t (.tup [.int lo, .int hi])) (upd H9 t (.tup [.int lo, .int hi])) := (Eff.refl ck9.sub).put ht
        have ck10 := ck9.pure eF
        obtain ⟨dx10, ho10⟩ := ck10.obj
        have hil10 : (upd H9 t (.tup [.int lo, .int hi])) il = _ := eF.all _ _ hil9
        have fil10 : (upd F9 t (.tup [.int lo, .int hi])) il = none := eF.fresh _ fil9 (by rw [hil9]; intro z; cases z)
        obtain ⟨kvs, hk10, hk11⟩ := ck10.dic
        have yn : y ∉ (en1 ++ numsB d (ItF.blocks (ItF.pl (.number y sz o lo hi) : ItF (Itm d)))).map (·.1) := by
          intro z
          rw [List.map_append, List.mem_append] at z
          rcases z with z | z
          · exact nmN (hk1 _ z)
          · cases z
        have kl : kvs.length < sizeLine := by
          have z1 := envR_len hk11
          have z2 : kvs.length = en1.length := by
            rw [z1]
            show (en1 ++ []).length = _
            rw [List.append_nil]
          exact small (by omega)
        refine ⟨_, rfl, self, _, dx10, _, _, rfl, ho10, T.c_ShapeCheck, T.n_ShapeCheck_numbers, ckf_numbers, _, rfl, b, _, _, _, rfl, rfl, SqT.of (eF.all _ _ (ck9.sub _ _ hbT)), at1, nd, _, rfl, .inl ⟨kvs, Sum.inr y, hk10, rfl, kl, rfl⟩, ?_⟩
        dsimp only
        have ck11 := ck10.addNum hk10 (x := y) (lo := lo) (hi := hi) (t := t) upd_same yn
        have e11 := e10.wr ck10.fd (.inl (by simp)) (o := .dK (putK kvs (Sum.inr y) (.ref t)))
        have hil11 : (upd (upd H9 t (.tup [.int lo, .int hi])) nd (.dK (putK kvs (Sum.inr y) (.ref t)))) il = _ := (upd_ne nil3).trans hil10
        have hT11 : SqT K (upd (upd H9 t (.tup [.int lo, .int hi])) nd (.dK (putK kvs (Sum.inr y) (.ref t)))) b _ := SqT.of (ck11.sub _ _ (eF.same _ _ hbT))
        refine ⟨_, rfl, .inl ⟨rfl, _, SqL.of hil11⟩, _, rfl, b, _, _, _, rfl, rfl, hT11, at1, il, _, _, rfl, rfl, hil11, ?_, ?_⟩
        · exact small (by rw [List.length_map, List.length_map]; omega)
        have ck12 := ck11.other (p := il) (o := .lst (visV vis1 ++ [.str y])) nil1 nil2 nil3 fil10
        refine ⟨_, _, _, rfl, e11.wr fil10 (.inr hil), fil10, ?_, ?_, ?_, ?_⟩
        · rw [upd_same]
          show _ = some (HO.lst (visV (vis1 ++ [(y, lo, hi)])))
          rw [visV, visV, List.map_append, List.map_append]
          rfl
        · exact ck12
        · exact clF (sub_app _ _) (by rw [List.append_assoc]; exact sub_app _ _)
        · intro q hq
          rcases List.mem_append.mp hq with hq | hq
          · exact lookup_app (hv7 q hq)
          · rw [List.mem_singleton.mp hq]
            rw [lookup_new yn]
            exact lkY'
      · refine r_kN rfl hT9 hkx ?_
        rw [hn, List.append_nil, List.append_nil]
        exact ⟨_, _, F9, rfl, e79, fil9, hil9, ck9, clF (Sub.refl _) (sub_app _ _), hv7⟩
  · rintro σ H1 ⟨v5, v6, F1, rfl, e1, fil1, hil1, ck1, cl1, hv1⟩
    rw [← hlen2.symm, List.take_length] at ck1 cl1
    exact q F1 H1 e1 ck1 cl1
end
end K6
set_option Elab.async false
set_option linter.all false
set_option maxRecDepth 100000
set_option maxHeartbeats 4000000
namespace K6
open PySem PySem.Spec PyProof.Rows L2
/-! ### the keys of the numbers are different -/
theorem sub_flat {α β : Type} {f g : α → List β} : ∀ {l : List α}, (∀ x ∈ l, (f x).Sublist (g x)) → (l.flatMap f).Sublist (l.flatMap g)
  | [], _ => List.Sublist.refl _
  | x :: l, h => by
    rw [List.flatMap_cons, List.flatMap_cons]
    exact (h x List.mem_cons_self).append (sub_flat fun y hy => h y (List.mem_cons_of_mem _ hy))
theorem keys_sl : ∀ (d : Nat) (x : Itm d), ((nums d x).map (·.1)).Sublist (nms d x)
  | 0, x => nomatch (show Empty from x)
  | d + 1, x => by
    show ((numsB d (ItF.blocks x) ++ ItF.num x).map (·.1)).Sublist (ItF.name x :: nmsB d (ItF.blocks x))
    rcases num_or x with ⟨y, sz, o, lo, hi, rfl⟩ | ⟨hn, _⟩
    · exact List.Sublist.refl _
    · rw [hn, List.append_nil]
      refine List.Sublist.cons _ ?_
      rw [List.map_flatMap]
      refine sub_flat fun b _ => ?_
      rw [List.map_flatMap]
      exact sub_flat fun y _ => keys_sl d y
theorem keys_nd {d : Nat} {l : List (Itm d)} (h : (nmsL d l).Nodup) : ((numsL d l).map (·.1)).Nodup := by
  refine h.sublist ?_
  rw [numsL, List.map_flatMap]
  exact sub_flat fun y _ => keys_sl d y
theorem envR_at {F : Hp} : ∀ {kvs : List (Key × V)} {e : Env1}, EnvR F kvs e → (e.map (·.1)).Nodup → ∀ {i : Nat} {k : Key} {v : V}, kvs[i]? = some (k, v) → valV kvs k = some v ∧ valV (kvs.take i) k = none
  | _, _, .nil, _, i, k, v, h => by simp at h
  | kv :: kvs, q :: e, .cons h r, hn, 0, k, v, hk => by
    simp at hk
    subst hk
    exact ⟨valV_pos rfl, valV_nil⟩
  | kv :: kvs, q :: e, .cons h r, hn, i + 1, k, v, hk => by
    have hk' : kvs[i]? = some (k, v) := by simpa using hk
    rw [List.map_cons, List.nodup_cons] at hn
    obtain ⟨h1, h2⟩ := envR_at r hn.2 hk'
    obtain ⟨q2, hq2, hr2, _⟩ := paired_at r hk'
    have ne : kv.1 ≠ k := by
      intro z
      have z1 : (Sum.inr q.1 : Key) = Sum.inr q2.1 := h.1.symm.trans (z.trans hr2)
      have z2 := Sum.inr.inj z1
      exact hn.1 (List.mem_map.mpr ⟨q2, List.mem_of_getElem? hq2, z2.symm⟩)
    obtain ⟨k0, v0⟩ := kv
    refine ⟨(valV_neg ne).trans h1, ?_⟩
    rw [List.take_succ_cons]
    exact (valV_neg ne).trans h2
/-! ### the shape's object -/
abbrev CS (K : PySem.W.Frag) : Addr := He.ga K "Shape"
def shf (pv : V) (tn bd : Addr) : List (Str × V) := [("parts", pv), ("names", .ref tn), ("bounds", .ref bd)]
theorem shf_parts {pv : V} {tn bd : Addr} : (shf pv tn bd).lookup ("parts" : Str) = some pv := lkY
theorem shf_names {pv : V} {tn bd : Addr} : (shf pv tn bd).lookup ("names" : Str) = some (.ref tn) := (lkN (by decide +kernel)).trans lkY
theorem shf_bounds {pv : V} {tn bd : Addr} : (shf pv tn bd).lookup ("bounds" : Str) = some (.ref bd) := (lkN (by decide +kernel)).trans ((lkN (by decide +kernel)).trans lkY)
def ShapeAt (C : Addr) (F : Hp) (d : Nat) (a : Addr) (l : List (Itm d)) : Prop := ∃ dx pv tn bd, F a = some (.ins C dx (shf pv tn bd)) ∧ IsIts true F d pv l ∧ F tn = some (.tup ((nmsL d l).map V.str)) ∧ IsEnv F F bd (numsL d l) ∧ ∀ y ∈ l, Closed (numsL d l) d y
theorem shapeAt_mono {C : Addr} {F F' : Hp} {d : Nat} {a : Addr} {l : List (Itm d)} (s : Same F F') (h : ShapeAt C F d a l) : ShapeAt C F' d a l := by
  obtain ⟨dx, pv, tn, bd, h1, h2, h3, h4, h5⟩ := h
  exact ⟨dx, pv, tn, bd, s _ _ h1, isIts_mono s h2, s _ _ h3, isEnv_same s s h4, h5⟩
def OkShape (d : Nat) (l : List (Itm d)) : Prop := l ≠ [] ∧ l.length ≤ 12 ∧ 1 ≤ d ∧ d ≤ 4 ∧ OkL (OkI d) [] l ∧ (nmsL d l).Nodup ∧ (nmsL d l).length ≤ 30 ∧ chksL d l ≤ 1
theorem lock_off {H : Hp} {nd D : Addr} {od : Obj} {u o : HO} (h : H nd = some u) (hD : D ≠ nd) : upd (upd (upd H nd (.frz od u)) D o) nd u = upd H D o := by
  funext b
  by_cases e1 : b = nd
  · subst e1
    rw [upd_same, upd_ne hD.symm, h]
  · by_cases e2 : b = D
    · subst e2
      rw [upd_ne e1, upd_same, upd_same]
    · rw [upd_ne e1, upd_ne e2, upd_ne e1, upd_ne e2]
theorem Eff.none {M : List Addr} {F H F' H' : Hp} {b : Addr} (e : Eff M F H F' H') (h : H' b = Option.none) : H b = Option.none := by
  cases z : H b with
  | none => rfl
  | some o => exact absurd h (e.there b (by rw [z]; intro y; cases y))
section
variable {P : Program} {w : World} {K : PySem.W.Frag} {mg : Str → Option Value} {base : Heap} {f : Addr} {fd : FuncData}
theorem items_all {fl : Addr} {fdl : FuncData} (F : Fun K "check_items" "ShapeCheck.check_items" s_ShapeCheck_check_items f fd) (hm : Meth K (CC K) "check_items" f) (Fl : Fun K "check_lengths" "ShapeCheck.check_lengths" s_ShapeCheck_check_lengths fl fdl) (hml : Meth K (CC K) "check_lengths" fl)
    (T : Tx w K mg) (F_require : Mc P w K mg base 1 (CC K) "require" spRequire) (F_is_name : Fc P w K mg base 1 "is_name" spIsName) (F_blocks_of : Fc P w K mg base 1 "blocks_of" spBlocks)
    (F_check_plain : Mc P w K mg base 2 (CC K) "check_plain" (spPlain K)) (F_check_uses : Mc P w K mg base 2 (CC K) "check_uses" (spUses K)) (F_least_of_items : ∀ d, Fc P w K mg base (2 * d + 2) "least_of_items" (spLeastItems d)) :
    ∀ d, Mc P w K mg base (2 * d + 2) (CC K) "check_items" (spItems K d)
  | 0 => ⟨f, hm, fnR_no fun vs H Q E h => by
      obtain ⟨_, _, _, _, _, _, _, _, _, _, _, _, _, _, _, _, _, h1, _⟩ := h
      omega⟩
  | d + 1 => ⟨f, hm, ok_check_items (k := 2 * d + 3) F T F_require F_is_name F_blocks_of F_check_plain F_check_uses ((items_all F hm Fl hml T F_require F_is_name F_blocks_of F_check_plain F_check_uses F_least_of_items d).mono (by omega)) ⟨fl, hml, ok_check_lengths Fl T F_require F_blocks_of (F_least_of_items d) (by omega)⟩ (by omega)⟩
def spShape (K : PySem.W.Frag) (d : Nat) : Sp := fun vs H Q _ => ∃ (F : Hp) (self dx : Addr) (v : V) (l : List (Itm d)), vs = [.ref self, v] ∧ Same F H ∧ F self = none ∧ H self = some (.ins (CS K) dx []) ∧ IsIts false F d v l ∧ OkShape d l ∧
  ∀ F' H' o, Eff [self] F H F' H' → F' self = none → H' self = some o → ShapeAt (CS K) (upd F' self o) d self l → Q .non H'
abbrev s_Shape_init : Stmt := inClass (top 32) 0
abbrev N_Shape_init : List Str := ["self", "items", "check", "name"]
theorem sc_Shape_init : FnScope N_Shape_init ["self", "items"] (defScope s_Shape_init) := ⟨rfl, rfl, rfl, by decide +kernel, rfl, by decide +kernel, by decide +kernel⟩
theorem b_Shape_init (kV doc pm : Value) (an : Option Addr) (cdv ct : Value) (us : List Value) (hl : us.length = (["self", "items"] : List Str).length) : bindArgs (PySem.W.fnOf "__init__" "Shape.__init__" (defArgs s_Shape_init) (defBody s_Shape_init) (defScope s_Shape_init) .none kV doc pm an cdv ct) ⟨us, []⟩ = pure ((["self", "items"] : List Str).zip us) := match us, hl with | [_, _], _ => rfl
theorem ok_shape_init {d : Nat} (F : Fun K "__init__" "Shape.__init__" s_Shape_init f fd) (T : Tx w K mg) (F_require : Mc P w K mg base 1 (CC K) "require" spRequire) (F_ShapeCheck_init : FnR P w K mg base CX0 1 (He.ma K (He.ga K "ShapeCheck") "__init__") (spCkInit K))
    (F_check_items : Mc P w K mg base 10 (CC K) "check_items" (spItems K d)) (F_copied_items : Fc P w K mg base 10 "copied_items" (spCopiedItems d)) :
    FnR P w K mg base CX0 11 f (spShape K d) := by
  refine raw_of F sc_Shape_init b_Shape_init (fun vs H Q E h => by obtain ⟨_, _, _, _, _, rfl, _⟩ := h; rfl) (fun cdv A outer s H vs Q E hr h => ?_)
  obtain ⟨F, self, dx, v, l, rfl, sFH, hF, hs, hl, ⟨l0, l12, d1, d4, ok, hN, hL, c1⟩, q⟩ := h
  refine ⟨_, (pss_cons (ps_set (i := 2) sc_Shape_init.nd rfl (by first | exact Or.inl rfl | exact Or.inr rfl) (pe_mk0 T.k_ShapeCheck T.g_ShapeCheck F_ShapeCheck_init (hr.mono (by omega))))
    (pss_cons (ps_expr (pe_mt (pv 2) T.c_ShapeCheck F_require (hr.mono (by omega)) (pa_cons (pe_cmpR op_gt (pe_callB call_len_seq (by rfl) T.f_len PySem.boot_len (pa_cons (pv 1) pa_nil)) pe_int (nomark _)) pa_nil)))
    (pss_cons (ps_expr (pe_mt (pv 2) T.c_ShapeCheck F_check_items (hr.mono (by omega)) (pa_cons (pv 1) (pa_cons (pe_lst pa_nil) (pa_cons pe_int pa_nil)))))
    (pss_cons (ps_fld (pv 0) (pe_cl F_copied_items (hr.mono (by omega)) (pa_cons (pv 1) pa_nil)) (by rfl))
    (pss_cons (ps_fld (pv 0) (pe_callTy call_tuple_of (by rfl) T.f_tuple (by decide +kernel) (pa_cons (pe_fld (pv 2) (by rfl)) pa_nil)) (by rfl))
    (pss_one (ps_fld (pv 0) (pe_lock (pe_dc (own := [("name", 3)]) (g := gName 3) (tt := tYes) rfl sc_Shape_init.nd (pi_keys (pe_fld (pv 2) (by rfl))) (blkOk_by (own := [("name", 3)]) (N := N_Shape_init) (sc := defScope s_Shape_init) (by decide +kernel)) (fun _ _ _ _ _ => (pg_name (i := 3) sc_Shape_init.nd rfl (by first | exact Or.inl rfl | exact Or.inr rfl))) (fun _ _ _ _ _ => pts_nil) (fun _ _ _ _ _ => (pv 3)) (fun _ _ _ _ _ => (pe_dget (hu_of hr) (pe_fldK (K' := K) rfl (pv 2) (by rfl)) (pv 3) (fun _ _ => rfl))))) (by rfl)))))))), ?_⟩
  refine sq fun ck dc h1 h2 h3 => ?_
  have e0 : Eff [] F H F (upd (upd H dc (.own ck)) ck (.ins (CC K) dc [])) := ((Eff.refl sFH).loc h2).loc (by rw [upd_ne h3.symm]; exact h1)
  refine ⟨F, ck, dc, rfl, e0.sub, sFH.free h1, upd_same, fun nl nd H2 e1 ck1 hnl1 hnd1 => ⟨rfl, ?_⟩⟩
  have hnl : H nl = none := e0.none hnl1
  have hnd : H nd = none := e0.none hnd1
  have sn1 : self ≠ ck := ne_of_none hs h1
  have sn2 : self ≠ nl := ne_of_none hs hnl
  have sn3 : self ≠ nd := ne_of_none hs hnd
  have e01 : Eff [] F H F H2 := e0.call e1 (by intro m hm; rw [List.mem_singleton.mp hm]; exact .inr h1)
  obtain ⟨dxk, hk⟩ := ck1.obj
  have hl0 := hl
  obtain ⟨a, vs, rfl, ha, hp, hlen⟩ := hl
  have hlen2 := paired_len hp
  have lpos : 0 < l.length := List.length_pos_iff.mpr l0
  refine sq (r_req (i := 2) rfl hk ckf_require ?_)
  refine ⟨_, rfl, a, _, rfl, .inl (SqL.of (ck1.sub _ _ ha)), _, _, rfl, rfl, reqT (decide_eq_true (by omega)) ?_⟩
  dsimp only
  refine sq ⟨_, rfl, ck, dxk, _, rfl, hk, ckf_items, _, rfl, (Nat.zero_le _), fun vl hvl => ?_⟩
  have e2 := e01.loc hvl (o := .lst [])
  have ck2 : Ck (CC K) F (upd H2 vl (.lst [])) ck nl nd [] [] 0 := by
    obtain ⟨kvs, h4, _⟩ := ck1.dic
    exact ck1.other (ne_of_none hk hvl).symm (ne_of_none ck1.lst hvl).symm (ne_of_none h4 hvl).symm (ck1.sub.free hvl)
  refine ⟨F, ck, nl, nd, vl, [], [], 0, _, l, [], 0, rfl, ck2, hl0, upd_same, l12, d1, Int.le_refl _, by omega, ok, (fun _ h => nomatch h), (fun _ h => nomatch h), Nat.le_refl _, Nat.le_refl _, hN, hL, Int.le_refl _, by omega, fun F4 H4 e4 ck4 cl4 => ?_⟩
  dsimp only
  have e24 : Eff [] F H F4 H4 := e2.call e4 (by
    intro m hm
    simp only [List.mem_cons, List.not_mem_nil, or_false] at hm
    rcases hm with rfl | rfl | rfl
    · exact .inr h1
    · exact .inr hnl
    · exact .inr hnd)
  refine sq ⟨_, rfl, F4, _, l, rfl, e24.sub, isIts_mono e24.same hl0, fun pv F5 H5 e5 hpv => ?_⟩
  have e25 : Eff [] F H F5 H5 := e24.pure e5
  have ck5 := ck4.pure e5
  have hs5 : H5 self = _ := e25.all _ _ hs
  have f5 : F5 self = none := e25.fresh _ hF (by rw [hs]; intro z; cases z)
  refine ⟨_, rfl, self, _, dx, [], rfl, hs5, T.c_Shape, T.n_Shape_parts, (by show 0 < 1000; decide), ?_⟩
  have e6 : Eff [self] F H F5 (upd H5 self (.ins (CS K) dx [("parts", pv)])) := (e25.more (by intro m hm; cases hm)).wr f5 (.inl (by simp))
  have ck6 := ck5.other (o := .ins (CS K) dx [("parts", pv)]) sn1 sn2 sn3 f5
  obtain ⟨dx6, hk6⟩ := ck6.obj
  refine sq ⟨_, rfl, ck, _, dx6, _, _, rfl, hk6, T.c_ShapeCheck, T.n_ShapeCheck_names, ckf_names, nl, _, rfl, .inl ⟨SqL.of ck6.lst, fun tn htn => ?_⟩⟩
  have e7 := e6.put htn (o := .tup (([] ++ nmsL d l).map V.str))
  have eF7 : Eff [] F5 (upd H5 self (.ins (CS K) dx [("parts", pv)])) (upd F5 tn (.tup (([] ++ nmsL d l).map V.str))) (upd (upd H5 self (.ins (CS K) dx [("parts", pv)])) tn (.tup (([] ++ nmsL d l).map V.str))) := (Eff.refl ck6.sub).put htn
  have ck7 := ck6.pure eF7
  have tns : self ≠ tn := ne_of_none upd_same htn
  have f7 : (upd F5 tn (.tup (([] ++ nmsL d l).map V.str))) self = none := (upd_ne tns).trans f5
  refine ⟨_, rfl, self, _, dx, _, rfl, (upd_ne tns).trans upd_same, T.c_Shape, T.n_Shape_names, (by show 1 < 1000; decide), ?_⟩
  have p1 : putF "names" (V.ref tn) ([("parts", pv)] : List (Str × V)) = ([("parts", pv), ("names", V.ref tn)] : List (Str × V)) := put_other (by decide +kernel)
  have p0 : putF "parts" pv ([] : List (Str × V)) = ([("parts", pv)] : List (Str × V)) := rfl
  rw [p0, p1]
  have e8 := e7.wr f7 (.inl (by simp)) (o := .ins (CS K) dx [("parts", pv), ("names", V.ref tn)])
  have ck8 := ck7.other (o := .ins (CS K) dx [("parts", pv), ("names", V.ref tn)]) sn1 sn2 sn3 f7
  obtain ⟨dx8, hk8⟩ := ck8.obj
  obtain ⟨kvs, hk9, hkR⟩ := ck8.dic
  have hs8 : (upd (upd (upd H5 self (.ins (CS K) dx [("parts", pv)])) tn (.tup (([] ++ nmsL d l).map V.str))) self (.ins (CS K) dx [("parts", pv), ("names", V.ref tn)])) self = _ := upd_same
  generalize (upd (upd (upd H5 self (.ins (CS K) dx [("parts", pv)])) tn (.tup (([] ++ nmsL d l).map V.str))) self (.ins (CS K) dx [("parts", pv), ("names", V.ref tn)])) = H8 at *
  have htn8 : (upd F5 tn (.tup (([] ++ nmsL d l).map V.str))) tn = some (.tup ((nmsL d l).map V.str)) := upd_same
  have s58 : Same F5 (upd F5 tn (.tup (([] ++ nmsL d l).map V.str))) := eF7.same
  generalize (upd F5 tn (.tup (([] ++ nmsL d l).map V.str))) = F8 at *
  have kl : kvs.length ≤ 30 := by
    have z1 := envR_len hkR
    have z2 : (numsL d l).length ≤ (nmsL d l).length := flat_le fun y _ => nums_le d y
    rw [List.nil_append] at z1
    omega
  refine ⟨nd, _, hk9, ?_, fun od => ?_⟩
  · trivial
  have nk : ck ≠ nd := ck8.n2
  refine ⟨_, rfl, ck, _, dx8, _, _, rfl, (upd_ne nk).trans hk8, T.c_ShapeCheck, T.n_ShapeCheck_numbers, ckf_numbers, nd, od, rfl, .inl ⟨kvs, upd_same, fun D hD => ?_⟩⟩
  have Dn : D ≠ nd := by
    intro z
    rw [z, upd_same] at hD
    cases hD
  have hD8 : H8 D = none := by
    rw [upd_ne Dn] at hD
    exact hD
  have Dc : ck ≠ D := ne_of_none hk8 hD8
  refine ⟨fun i m H' => i + m = kvs.length ∧ H' = upd (upd H8 nd (.frz od (.dK kvs))) D (.dK (kvs.take i)), ⟨kvs.length, Nat.zero_add _, by rw [List.take_zero]⟩, ?_⟩
  rintro i m H' ⟨him, rfl⟩
  have hfz : (upd (upd H8 nd (.frz od (.dK kvs))) D (.dK (kvs.take i))) nd = some (.frz od (.dK kvs)) := (upd_ne Dn.symm).trans upd_same
  cases m with
  | zero =>
    have : i = kvs.length := by omega
    subst this
    refine .inl ⟨⟨hfz, Nat.le_refl _⟩, hfz, ?_⟩
    rw [List.take_length, lock_off hk9 Dn]
    have e9 := e8.put hD8 (o := .dK kvs)
    have Ds : self ≠ D := ne_of_none hs8 hD8
    refine ⟨_, rfl, self, _, dx, _, rfl, (upd_ne Ds).trans hs8, T.c_Shape, T.n_Shape_bounds, (by show 2 < 1000; decide), ?_⟩
    have p2 : putF "bounds" (V.ref D) ([("parts", pv), ("names", V.ref tn)] : List (Str × V)) = shf pv tn D := (put_other (by decide +kernel)).trans (congrArg (fun z => (("parts" : Str), pv) :: z) (put_other (by decide +kernel)))
    rw [p2]
    have f9 : (upd F8 D (.dK kvs)) self = none := (upd_ne Ds).trans f7
    have e10 := e9.wr f9 (.inl (by simp)) (o := .ins (CS K) dx (shf pv tn D))
    have sA : Same F8 (upd F8 D (.dK kvs)) := same_new (ck8.sub.free hD8) _
    have sB : Same (upd F8 D (.dK kvs)) (upd (upd F8 D (.dK kvs)) self (.ins (CS K) dx (shf pv tn D))) := same_new f9 _
    refine q _ _ _ e10 f9 upd_same ⟨dx, pv, tn, D, upd_same, isIts_mono (s58.trans (sA.trans sB)) hpv, sB _ _ (sA _ _ htn8), ⟨kvs, .inl (sB _ _ upd_same), ?_⟩, fun y hy => cl4 y hy⟩
    exact paired_mono (fun _ _ ⟨h, t, a, b⟩ => ⟨h, t, a, sB _ _ (sA _ _ b)⟩) hkR
  | succ m =>
    have hi : i < kvs.length := by omega
    refine .inr ⟨⟨hfz, hi⟩, fun H' => i + 1 + m = kvs.length ∧ H' = upd (upd H8 nd (.frz od (.dK kvs))) D (.dK (kvs.take (i + 1))), fun H' h => ⟨m, Nat.lt_succ_self _, h⟩, ?_⟩
    rintro x H' ⟨rfl, k, v2, hkv, rfl⟩
    obtain ⟨g1, g2⟩ := envR_at hkR (by rw [List.nil_append]; exact keys_nd hN) hkv
    obtain ⟨_, _, ht⟩ := cut_at hkv
    refine ⟨rfl, ⟨_, rfl, _, rfl, ck, _, dx8, _, _, rfl, (upd_ne Dc).trans ((upd_ne nk).trans hk8), T.c_ShapeCheck, T.n_ShapeCheck_numbers, ckf_numbers, _, rfl, nd, v2, rfl, .inl ⟨kvs, k, .inr ⟨od, hfz⟩, rfl, g1.symm⟩, kvs.take i, k, rfl, upd_same, ?_, by omega, ?_⟩⟩
    · exact small (by rw [List.length_take]; omega)
    · rw [upd_upd, putK_new _ g2, ht]
end
end K6
set_option Elab.async false
set_option linter.all false
set_option maxRecDepth 100000
set_option maxHeartbeats 4000000
namespace K6
open PySem L2 TL
/-! ### words -/
def WordOk (x : Str) : Prop := x.length ≤ 20 ∧ ∀ c ∈ tl x, c ≠ 32 ∧ c ≠ 10
def LineOk (ws : List Str) : Prop := ws ≠ [] ∧ ws.length ≤ 6 ∧ ∀ x ∈ ws, WordOk x
theorem nameChars_ok : ∀ c ∈ tl nameChars, c ≠ 32 ∧ c ≠ 10 := by decide +kernel
theorem name_all {x : Str} (h : isNameB x = true) : (∀ c ∈ tl x, c ∈ tl nameChars) ∧ x.length ≤ 12 ∧ 1 ≤ x.length := by
  simp only [isNameB, Bool.and_eq_true, decide_eq_true_eq, List.all_eq_true] at h
  exact ⟨fun c hc => h.2 c hc, h.1.1.2, h.1.1.1⟩
theorem name_word {x : Str} (h : isNameB x = true) : WordOk x := by
  obtain ⟨h1, h2, _⟩ := name_all h
  exact ⟨by omega, fun c hc => nameChars_ok c (h1 c hc)⟩
theorem tl_int {n : Int} (h : 0 ≤ n) : tl (txt (.int n)) = numL n.toNat := by
  have e : n = ((n.toNat : Nat) : Int) := (Int.toNat_of_nonneg h).symm
  show tl (Str.ofString (toString n)) = _
  rw [e]
  exact tl_num _
theorem int_word {n : Int} (h : 0 ≤ n) (h2 : n ≤ 65535) : WordOk (txt (.int n)) := by
  refine ⟨?_, ?_⟩
  · have := numL_len (n := n.toNat) (k := 5) (by decide) (by omega)
    rw [len_tl, tl_int h]
    omega
  · rw [tl_int h]
    intro c hc
    refine ⟨fun z => numL_free (s := 32) (.inl (by decide)) (z ▸ hc), fun z => numL_free (s := 10) (.inl (by decide)) (z ▸ hc)⟩
/-! ### validity with names -/
def VisN (vis : Env1) : Prop := ∀ q ∈ vis, isNameB q.1 = true
def OkN (d : Nat) (x : Itm d) : Prop := ∃ vis, VisN vis ∧ OkI d vis x
theorem OkN.a {d : Nat} {x : Itm d} (h : OkN d x) : OkA d x := by
  obtain ⟨vis, _, h⟩ := h
  exact ⟨vis, h⟩
theorem visN_num {d : Nat} {vis : Env1} {x : Itm d} (hv : VisN vis) (h : OkI d vis x) : VisN (vis ++ numOf d x) := by
  match d, x, h with
  | 0, x, _ => exact nomatch (show Empty from x)
  | d + 1, x, h =>
    intro q hq
    rcases List.mem_append.mp hq with hq | hq
    · exact hv q hq
    · have hq : q ∈ ItF.num x := hq
      rcases num_or x with ⟨y, sz, o, lo, hi, rfl⟩ | ⟨hn, _⟩
      · rw [List.mem_singleton.mp hq]
        exact h.1
      · rw [hn] at hq
        cases hq
theorem okL_memN {d : Nat} : ∀ {vis : Env1} {l : List (Itm d)}, VisN vis → OkL (OkI d) vis l → ∀ x ∈ l, OkN d x
  | _, [], _, _, x, h => nomatch h
  | vis, y :: r, hv, h, x, hx => by
    rcases List.mem_cons.mp hx with rfl | hx
    · exact ⟨vis, hv, h.1⟩
    · exact okL_memN (visN_num hv h.1) h.2 x hx
theorem okN_blocks {d : Nat} {x : Itm (d + 1)} (h : OkN (d + 1) x) : ∀ b ∈ ItF.blocks x, ∀ y ∈ b, OkN d y := by
  obtain ⟨vis, hv, h⟩ := h
  intro b hb
  exact okL_memN hv (ok_block h b hb).2.2
theorem use_word {vis : Env1} {most : Int} {u : Use} (hv : VisN vis) (hm : most ≤ 65535) (h : UseOk vis most u) : WordOk (txt u.v) := by
  cases u with
  | lit n => exact int_word h.1 (by have := h.2; omega)
  | nam x =>
    obtain ⟨lo, hi, h1, _⟩ := h
    exact name_word (hv _ h1)
theorem wk (x : Str) (h : (decide (x.length ≤ 20) && (tl x).all fun c => decide (c ≠ 32) && decide (c ≠ 10)) = true) : WordOk x := by
  simp only [Bool.and_eq_true, decide_eq_true_eq, List.all_eq_true] at h
  exact h
theorem w_end : WordOk "end" := wk _ (by decide +kernel)
theorem w_choice : WordOk "choice" := wk _ (by decide +kernel)
theorem w_case : WordOk "case" := wk _ (by decide +kernel)
theorem w_number : WordOk "number" := wk _ (by decide +kernel)
theorem w_bytes : WordOk "bytes" := wk _ (by decide +kernel)
theorem w_text : WordOk "text" := wk _ (by decide +kernel)
theorem w_check : WordOk "check" := wk _ (by decide +kernel)
theorem w_pad : WordOk "pad" := wk _ (by decide +kernel)
theorem w_repeat : WordOk "repeat" := wk _ (by decide +kernel)
theorem w_either : WordOk "either" := wk _ (by decide +kernel)
theorem w_switch : WordOk "switch" := wk _ (by decide +kernel)
theorem w_big : WordOk "big" := wk _ (by decide +kernel)
theorem w_little : WordOk "little" := wk _ (by decide +kernel)
theorem plain_line {vis : Env1} {p : Plain} (hv : VisN vis) (hn : isNameB p.name = true) (h : OkP vis p) : LineOk (p.vs.map txt) := by
  cases p with
  | number x s o l h' =>
    obtain ⟨h1, h2, h3, h4⟩ := h
    refine ⟨by simp [Plain.vs], by simp [Plain.vs], ?_⟩
    intro w hw
    simp only [Plain.vs, List.map_cons, List.map_nil, List.mem_cons, List.not_mem_nil, or_false] at hw
    rcases hw with rfl | rfl | rfl | rfl | rfl | rfl
    · exact w_number
    · exact name_word hn
    · exact int_word (by rcases h1 with q | q <;> omega) (by rcases h1 with q | q <;> omega)
    · rcases h2 with rfl | rfl
      · exact w_big
      · exact w_little
    · exact int_word h3 (by rcases h1 with q | q <;> omega)
    · exact int_word (by omega) (by rcases h1 with q | q <;> omega)
  | bytes x u =>
    refine ⟨by simp [Plain.vs], by simp [Plain.vs], ?_⟩
    intro w hw
    simp only [Plain.vs, List.map_cons, List.map_nil, List.mem_cons, List.not_mem_nil, or_false] at hw
    rcases hw with rfl | rfl | rfl
    · exact w_bytes
    · exact name_word hn
    · exact use_word hv (by decide) h
  | text x s m =>
    obtain ⟨⟨h1, h2⟩, h3, h4⟩ := h
    refine ⟨by simp [Plain.vs], by simp [Plain.vs], ?_⟩
    intro w hw
    simp only [Plain.vs, List.map_cons, List.map_nil, List.mem_cons, List.not_mem_nil, or_false] at hw
    rcases hw with rfl | rfl | rfl | rfl
    · exact w_text
    · exact name_word hn
    · exact int_word h1 (by omega)
    · exact int_word h3 (by omega)
  | check x m =>
    obtain ⟨h1, h2⟩ := h
    refine ⟨by simp [Plain.vs], by simp [Plain.vs], ?_⟩
    intro w hw
    simp only [Plain.vs, List.map_cons, List.map_nil, List.mem_cons, List.not_mem_nil, or_false] at hw
    rcases hw with rfl | rfl | rfl
    · exact w_check
    · exact name_word hn
    · exact int_word (by omega) (by omega)
  | pad x m b =>
    obtain ⟨h1, h2, h3⟩ := h
    refine ⟨by simp [Plain.vs], by simp [Plain.vs], ?_⟩
    intro w hw
    simp only [Plain.vs, List.map_cons, List.map_nil, List.mem_cons, List.not_mem_nil, or_false] at hw
    rcases hw with rfl | rfl | rfl | rfl
    · exact w_pad
    · exact name_word hn
    · exact int_word (by rcases h1 with q | q | q | q | q <;> omega) (by rcases h1 with q | q | q | q | q <;> omega)
    · exact int_word h2 (by omega)
theorem line2 {a b : Str} (ha : WordOk a) (hb : WordOk b) : LineOk [a, b] := ⟨by simp, by simp, fun w hw => by
  simp only [List.mem_cons, List.not_mem_nil, or_false] at hw
  rcases hw with rfl | rfl <;> assumption⟩
theorem line3 {a b c : Str} (ha : WordOk a) (hb : WordOk b) (hc : WordOk c) : LineOk [a, b, c] := ⟨by simp, by simp, fun w hw => by
  simp only [List.mem_cons, List.not_mem_nil, or_false] at hw
  rcases hw with rfl | rfl | rfl <;> assumption⟩
theorem line1 {a : Str} (ha : WordOk a) : LineOk [a] := ⟨by simp, by simp, fun w hw => by
  rw [List.mem_singleton.mp hw]
  exact ha⟩
theorem line_ok : ∀ (d : Nat) (x : Itm d), OkN d x → ∀ ws ∈ lnw d x, LineOk ws
  | 0, x, _, _, _ => nomatch (show Empty from x)
  | d + 1, .pl p, ⟨vis, hv, h⟩, ws, hw => by
    have hw : ws ∈ [p.vs.map txt] := hw
    rw [List.mem_singleton.mp hw]
    exact plain_line hv h.1 h.2
  | d + 1, .rep n u b, h, ws, hw => by
    have hb := okN_blocks h b (List.mem_singleton.mpr rfl)
    obtain ⟨vis, hv, h⟩ := h
    have hw : ws ∈ (["repeat", n, txt u.v] : List Str) :: (b.flatMap (lnw d) ++ [(["end"] : List Str)]) := hw
    rcases List.mem_cons.mp hw with rfl | hw
    · exact line3 w_repeat (name_word h.1) (use_word hv (by decide) h.2.2.1)
    rcases List.mem_append.mp hw with hw | hw
    · obtain ⟨y, hy, hw⟩ := List.mem_flatMap.mp hw
      exact line_ok d y (hb y hy) ws hw
    · rw [List.mem_singleton.mp hw]
      exact line1 w_end
  | d + 1, .eit n bs, h, ws, hw => by
    have hb := okN_blocks h
    obtain ⟨vis, hv, h⟩ := h
    have hw : ws ∈ (["either", n] : List Str) :: ((bs.flatMap fun b => (["choice"] : List Str) :: b.flatMap (lnw d)) ++ [(["end"] : List Str)]) := hw
    rcases List.mem_cons.mp hw with rfl | hw
    · exact line2 w_either (name_word h.1)
    rcases List.mem_append.mp hw with hw | hw
    · obtain ⟨b, hb2, hw⟩ := List.mem_flatMap.mp hw
      rcases List.mem_cons.mp hw with rfl | hw
      · exact line1 w_choice
      · obtain ⟨y, hy, hw⟩ := List.mem_flatMap.mp hw
        exact line_ok d y (hb b hb2 y hy) ws hw
    · rw [List.mem_singleton.mp hw]
      exact line1 w_end
  | d + 1, .swi n t cs, h, ws, hw => by
    have hb := okN_blocks h
    obtain ⟨vis, hv, h⟩ := h
    have hw : ws ∈ (["switch", n, t] : List Str) :: ((cs.flatMap fun c => (["case", txt (.int c.1)] : List Str) :: c.2.flatMap (lnw d)) ++ [(["end"] : List Str)]) := hw
    rcases List.mem_cons.mp hw with rfl | hw
    · obtain ⟨lo, hi, ht⟩ := h.2.2.1
      exact line3 w_switch (name_word h.1) (name_word (hv _ ht))
    rcases List.mem_append.mp hw with hw | hw
    · obtain ⟨c, hc, hw⟩ := List.mem_flatMap.mp hw
      rcases List.mem_cons.mp hw with rfl | hw
      · have q := (h.2.2.2.2.2.2 c hc).1
        exact line2 w_case (int_word q.1 q.2)
      · obtain ⟨y, hy, hw⟩ := List.mem_flatMap.mp hw
        exact line_ok d y (hb c.2 (List.mem_map.mpr ⟨c, hc, rfl⟩) y hy) ws hw
    · rw [List.mem_singleton.mp hw]
      exact line1 w_end
theorem sum_const {α : Type} (l : List α) (k : Nat) : (l.map fun _ => k).sum = k * l.length := by
  induction l with
  | nil => rfl
  | cons a l ih =>
    rw [List.map_cons, List.sum_cons, ih, List.length_cons, Nat.mul_add]
    omega
theorem sum_mul {α : Type} {f g : α → Nat} {k c : Nat} : ∀ {l : List α}, (∀ x ∈ l, f x ≤ c + k * g x) → (l.map f).sum ≤ c * l.length + k * (l.map g).sum
  | [], _ => Nat.zero_le _
  | x :: l, h => by
    rw [List.map_cons, List.map_cons, List.sum_cons, List.sum_cons, List.length_cons]
    have h1 := h x List.mem_cons_self
    have h2 := sum_mul (l := l) fun y hy => h y (List.mem_cons_of_mem _ hy)
    rw [Nat.mul_add, Nat.mul_add]
    omega
theorem lines_le : ∀ (d : Nat) (x : Itm d), OkA d x → (lnw d x).length ≤ 10 * (nms d x).length
  | 0, x, _ => nomatch (show Empty from x)
  | d + 1, .pl p, _ => by
    show 1 ≤ 10 * 1
    decide
  | d + 1, .rep n u b, h => by
    have hb := okA_blocks h b (List.mem_singleton.mpr rfl)
    show ((["repeat", n, txt u.v] : List Str) :: (b.flatMap (lnw d) ++ [(["end"] : List Str)])).length ≤ 10 * (n :: nmsB d [b]).length
    rw [nmsB, List.flatMap_singleton, List.length_cons, List.length_append, List.length_singleton, List.length_cons, List.length_flatMap, List.length_flatMap]
    have := sum_mul (l := b) (f := fun y => (lnw d y).length) (g := fun y => (nms d y).length) (k := 10) (c := 0) fun y hy => by rw [Nat.zero_add]; exact lines_le d y (hb.2 y hy)
    omega
  | d + 1, .eit n bs, h => by
    have hb := okA_blocks h
    have h4 : bs.length ≤ 4 := by
      obtain ⟨vis, h⟩ := h
      exact h.2.2.2.1
    show ((["either", n] : List Str) :: ((bs.flatMap fun b => (["choice"] : List Str) :: b.flatMap (lnw d)) ++ [(["end"] : List Str)])).length ≤ 10 * (n :: nmsB d bs).length
    rw [nmsB, List.length_cons, List.length_append, List.length_singleton, List.length_cons, List.length_flatMap, List.length_flatMap]
    have := sum_mul (l := bs) (f := fun b => ((["choice"] : List Str) :: b.flatMap (lnw d)).length) (g := fun b => (b.flatMap (nms d)).length) (k := 10) (c := 1) fun b hb2 => by
      rw [List.length_cons, List.length_flatMap, List.length_flatMap]
      have := sum_mul (l := b) (f := fun y => (lnw d y).length) (g := fun y => (nms d y).length) (k := 10) (c := 0) fun y hy => by rw [Nat.zero_add]; exact lines_le d y ((hb b hb2).2 y hy)
      omega
    omega
  | d + 1, .swi n t cs, h => by
    have hb := okA_blocks h
    have h4 : cs.length ≤ 8 := by
      obtain ⟨vis, h⟩ := h
      exact h.2.2.2.2.1
    show ((["switch", n, t] : List Str) :: ((cs.flatMap fun c => (["case", txt (.int c.1)] : List Str) :: c.2.flatMap (lnw d)) ++ [(["end"] : List Str)])).length ≤ 10 * (n :: nmsB d (cs.map (·.2))).length
    rw [nmsB, List.flatMap_map, List.length_cons, List.length_append, List.length_singleton, List.length_cons, List.length_flatMap, List.length_flatMap]
    have := sum_mul (l := cs) (f := fun c => ((["case", txt (.int c.1)] : List Str) :: c.2.flatMap (lnw d)).length) (g := fun c => (c.2.flatMap (nms d)).length) (k := 10) (c := 1) fun c hc => by
      rw [List.length_cons, List.length_flatMap, List.length_flatMap]
      have := sum_mul (l := c.2) (f := fun y => (lnw d y).length) (g := fun y => (nms d y).length) (k := 10) (c := 0) fun y hy => by rw [Nat.zero_add]; exact lines_le d y ((hb c.2 (List.mem_map.mpr ⟨c, hc, rfl⟩)).2 y hy)
      omega
    omega
theorem linesL_le {d : Nat} {l : List (Itm d)} (h : ∀ x ∈ l, OkA d x) : (l.flatMap (lnw d)).length ≤ 10 * (nmsL d l).length := by
  rw [nmsL, List.length_flatMap, List.length_flatMap]
  have := sum_mul (l := l) (f := fun y => (lnw d y).length) (g := fun y => (nms d y).length) (k := 10) (c := 0) fun y hy => by rw [Nat.zero_add]; exact lines_le d y (h y hy)
  omega
/-! ### joined words -/
theorem jn_eq (ws : List Str) : jn ws = Str.join " " ws := join_eq _ _
theorem jn1 (a : Str) : jn [a] = a := jn_eq _
theorem jn_cons (a b : Str) (r : List Str) : jn (a :: b :: r) = a ++ " " ++ jn (b :: r) := by rw [jn_eq, jn_eq]; rfl
theorem jn2 (a b : Str) : jn [a, b] = a ++ " " ++ b := by rw [jn_cons, jn1]
theorem jn3 (a b c : Str) : jn [a, b, c] = a ++ " " ++ (b ++ " " ++ c) := by rw [jn_cons, jn2]
theorem jn_snoc : ∀ (ws : List Str) (a b : Str), jn (a :: ws) ++ " " ++ b = jn (a :: (ws ++ [b]))
  | [], a, b => by rw [jn1, List.nil_append, jn2]
  | c :: ws, a, b => by
    rw [jn_cons, List.cons_append, jn_cons, ← jn_snoc ws c b, Str.append_assoc, Str.append_assoc, Str.append_assoc, Str.append_assoc, Str.append_assoc]
theorem jn_len : ∀ {ws : List Str}, (∀ x ∈ ws, x.length ≤ 20) → (jn ws).length ≤ 21 * ws.length
  | [], _ => by
    rw [jn_eq]
    exact Nat.le_refl _
  | [a], h => by
    rw [jn1]
    have := h a (List.mem_singleton.mpr rfl)
    show a.length ≤ 21 * 1
    omega
  | a :: b :: r, h => by
    rw [jn_cons, Str.length_append, Str.length_append]
    have h1 := h a List.mem_cons_self
    have h2 := jn_len (ws := b :: r) fun x hx => h x (List.mem_cons_of_mem _ hx)
    have h3 : (" " : Str).length = 1 := by decide +kernel
    rw [h3]
    simp only [List.length_cons] at h2 ⊢
    omega
theorem line_len {ws : List Str} (h : LineOk ws) : (jn ws).length ≤ 126 := by
  have := jn_len fun x hx => (h.2.2 x hx).1
  have := h.2.1
  omega
end K6
set_option Elab.async false
set_option linter.all false
set_option maxRecDepth 100000
set_option maxHeartbeats 4000000
namespace K6
open PySem PySem.Spec PyProof.Rows L2
abbrev SL (acc : List (List Str)) : HO := .lst ((acc.map jn).map V.str)
theorem line_sum {ws : List Str} (h : LineOk ws) : (ws.map (·.length)).sum + ws.length * (" " : Str).length ≤ 16777216 := by
  have h1 : (" " : Str).length = 1 := by decide +kernel
  have h2 := sum_le (l := ws) (f := fun x => x.length) (g := fun _ => 20) fun x hx => (h.2.2 x hx).1
  rw [sum_const] at h2
  rw [h1]
  have h3 := h.2.1
  have h4 : (ws.map (·.length)).sum ≤ 20 * ws.length := h2
  omega
theorem plain_small {vis : Env1} {p : Plain} (h : OkP vis p) : ∀ v ∈ p.vs, (∃ n : Int, v = .int n ∧ 0 ≤ n ∧ n ≤ 65535) ∨ ∃ x, v = .str x := by
  have us : ∀ {most : Int} {u : Use}, most ≤ 65535 → UseOk vis most u → (∃ n : Int, u.v = .int n ∧ 0 ≤ n ∧ n ≤ 65535) ∨ ∃ x, u.v = .str x := by
    intro most u hm h
    cases u with
    | lit n => exact .inl ⟨n, rfl, h.1, by have := h.2; omega⟩
    | nam x => exact .inr ⟨x, rfl⟩
  intro v hv
  cases p with
  | number x s o l h' =>
    obtain ⟨h1, h2, h3, h4⟩ := h
    simp only [Plain.vs, List.mem_cons, List.not_mem_nil, or_false] at hv
    rcases hv with rfl | rfl | rfl | rfl | rfl | rfl
    · exact .inr ⟨_, rfl⟩
    · exact .inr ⟨_, rfl⟩
    · exact .inl ⟨_, rfl, by rcases h1 with q | q <;> omega, by rcases h1 with q | q <;> omega⟩
    · exact .inr ⟨_, rfl⟩
    · exact .inl ⟨_, rfl, h3, by rcases h1 with q | q <;> omega⟩
    · exact .inl ⟨_, rfl, by omega, by rcases h1 with q | q <;> omega⟩
  | bytes x u =>
    simp only [Plain.vs, List.mem_cons, List.not_mem_nil, or_false] at hv
    rcases hv with rfl | rfl | rfl
    · exact .inr ⟨_, rfl⟩
    · exact .inr ⟨_, rfl⟩
    · exact us (by decide) (show UseOk vis 64 u from h)
  | text x s m =>
    obtain ⟨⟨h1, h2⟩, h3, h4⟩ := h
    simp only [Plain.vs, List.mem_cons, List.not_mem_nil, or_false] at hv
    rcases hv with rfl | rfl | rfl | rfl
    · exact .inr ⟨_, rfl⟩
    · exact .inr ⟨_, rfl⟩
    · exact .inl ⟨_, rfl, h1, by omega⟩
    · exact .inl ⟨_, rfl, h3, by omega⟩
  | check x m =>
    obtain ⟨h1, h2⟩ := h
    simp only [Plain.vs, List.mem_cons, List.not_mem_nil, or_false] at hv
    rcases hv with rfl | rfl | rfl
    · exact .inr ⟨_, rfl⟩
    · exact .inr ⟨_, rfl⟩
    · exact .inl ⟨_, rfl, by omega, by omega⟩
  | pad x m b =>
    obtain ⟨h1, h2, h3⟩ := h
    simp only [Plain.vs, List.mem_cons, List.not_mem_nil, or_false] at hv
    rcases hv with rfl | rfl | rfl | rfl
    · exact .inr ⟨_, rfl⟩
    · exact .inr ⟨_, rfl⟩
    · exact .inl ⟨_, rfl, by rcases h1 with q | q | q | q | q <;> omega, by rcases h1 with q | q | q | q | q <;> omega⟩
    · exact .inl ⟨_, rfl, h2, by omega⟩
theorem log_small {n : Int} (h0 : 0 ≤ n) (h : n ≤ 65535) : n.natAbs.log2 < 1920 := by
  by_cases hz : n.natAbs = 0
  · rw [hz]
    decide
  · have h1 : n.natAbs.log2 < 16 := (Nat.log2_lt hz).mpr (by show n.natAbs < 65536; omega)
    omega
theorem SL_snoc {pre : List (List Str)} {ws : List Str} : HO.lst ((pre.map jn).map V.str ++ [V.str (jn ws)]) = SL (pre ++ [ws]) := by
  rw [SL, List.map_append, List.map_append]
  rfl
theorem SL_app {pre r : List (List Str)} : HO.lst ((pre.map jn).map V.str ++ (r.map jn).map V.str) = SL (pre ++ r) := by rw [SL, List.map_append, List.map_append]
theorem SL_len (pre : List (List Str)) : ((pre.map jn).map V.str).length = pre.length := by rw [List.length_map, List.length_map]
theorem sp_repeat : ("repeat " : Str) = "repeat" ++ " " := by decide +kernel
theorem sp_either : ("either " : Str) = "either" ++ " " := by decide +kernel
theorem sp_switch : ("switch " : Str) = "switch" ++ " " := by decide +kernel
theorem sp_case : ("case " : Str) = "case" ++ " " := by decide +kernel
theorem js3 {k k' : Str} (h : k' = k ++ " ") (a b : Str) : Str.empty ++ k' ++ a ++ " " ++ b = jn [k, a, b] := by
  rw [jn3, h, Str.empty_append, Str.append_assoc, Str.append_assoc, Str.append_assoc, Str.append_assoc, Str.append_assoc]
theorem js2 {k k' : Str} (h : k' = k ++ " ") (a : Str) : Str.empty ++ k' ++ a = jn [k, a] := by
  rw [jn2, h, Str.empty_append]
theorem fmt_u {vis : Env1} {most : Int} {u : Use} {R : Str → Prop} (hv : VisN vis) (hm : most ≤ 65535) (h : UseOk vis most u) (q : R (txt u.v)) : (∃ y : Str, u.v = .str y ∧ y.length ≤ sizeLine ∧ R y) ∨ ∃ i : Int, u.v = .int i ∧ i.natAbs.log2 < 1920 ∧ R (toString i) := by
  have hw := use_word hv hm h
  cases u with
  | lit n => exact .inr ⟨n, rfl, log_small h.1 (by have := h.2; omega), q⟩
  | nam x => exact .inl ⟨x, rfl, small (by have := hw.1; exact Nat.le_trans this (by decide)), q⟩
theorem len_le (n : Nat) (h : n ≤ 1000) : n ≤ sizeLine := small h
section
variable {P : Program} {w : World} {K : PySem.W.Frag} {mg : Str → Option Value} {base : Heap} {f : Addr} {fd : FuncData}
/-! ### format_items -/
def spFmt (d : Nat) : Sp := fun vs H Q _ => ∃ (z : Bool) (F : Hp) (v : V) (l : List (Itm d)), vs = [v] ∧ Same F H ∧ IsIts z F d v l ∧ (∀ x ∈ l, OkN d x) ∧ (nmsL d l).length ≤ 30 ∧ ∀ r F' H', Eff [] F H F' H' → F' r = some (SL (l.flatMap (lnw d))) → Q (.ref r) H'
abbrev s_format_items : Stmt := top 37
abbrev N_format_items : List Str := ["items", "lines", "item", "block", "value", "part"]
theorem sc_format_items : FnScope N_format_items ["items"] (defScope s_format_items) := ⟨rfl, rfl, rfl, by decide +kernel, rfl, by decide +kernel, by decide +kernel⟩
theorem b_format_items (kV doc pm : Value) (an : Option Addr) (cdv ct : Value) (us : List Value) (hl : us.length = (["items"] : List Str).length) : bindArgs (PySem.W.fnOf "format_items" "format_items" (defArgs s_format_items) (defBody s_format_items) (defScope s_format_items) .none kV doc pm an cdv ct) ⟨us, []⟩ = pure ((["items"] : List Str).zip us) := match us, hl with | [_], _ => rfl
theorem ok_format_items {d k : Nat} (F : Fun K "format_items" "format_items" s_format_items f fd) (T : Tx w K mg) (F_format_items : Fc P w K mg base k "format_items" (spFmt d)) : FnR P w K mg base CX0 (k + 1) f (spFmt (d + 1)) := by
  refine raw_of F sc_format_items b_format_items (fun vs H Q E h => by obtain ⟨_, _, _, _, rfl, _⟩ := h; rfl) (fun cdv A outer s H vs Q E hr h => ?_)
  obtain ⟨z, F, v, l, rfl, sFH, hl, ok, h30, q⟩ := h
  refine ⟨_, (pss_cons (ps_set (i := 1) sc_format_items.nd rfl (by first | exact Or.inl rfl | exact Or.inr rfl) (pe_lst pa_nil))
    (pss_cons (ps_for PassesOwn.never rfl (pi_seq (pv 0)) (pg_name (i := 2) sc_format_items.nd rfl (by first | exact Or.inl rfl | exact Or.inr rfl))
      (pss_cons (ps_if (pt_cmpR op_eq (pe_ix ix_tup (pv 2) pe_int (fun _ _ => rfl)) pe_str (nomark _))
        (pss_cons (ps_expr (pe_bm PySem.F.plainAttrs_list PySem.F.slot_list_append PySem.F.type_list_append mt_append (pv 1) (pa_cons (pe_joined (PJ.cons pe_str (PJ.cons (pe_fmt (pe_ix ix_tup (pv 2) pe_int (fun _ _ => rfl))) (PJ.cons pe_str (PJ.cons (pe_fmt (pe_ix ix_tup (pv 2) pe_int (fun _ _ => rfl))) PJ.nil))))) pa_nil)))
        (pss_one (ps_aug (i := 1) sc_format_items.nd rfl (by first | exact Or.inl rfl | exact Or.inr rfl) (pe_cl F_format_items (hr.mono (by omega)) (pa_cons (pe_ix ix_tup (pv 2) pe_int (fun _ _ => rfl)) pa_nil)) iop_ext)))
        (pss_one (ps_if (pt_cmpR op_eq (pe_ix ix_tup (pv 2) pe_int (fun _ _ => rfl)) pe_str (nomark _))
          (pss_cons (ps_expr (pe_bm PySem.F.plainAttrs_list PySem.F.slot_list_append PySem.F.type_list_append mt_append (pv 1) (pa_cons (pe_joined (PJ.cons pe_str (PJ.cons (pe_fmt (pe_ix ix_tup (pv 2) pe_int (fun _ _ => rfl))) PJ.nil))) pa_nil)))
          (pss_one (ps_for PassesOwn.never rfl (pi_seq (pe_ix ix_tup (pv 2) pe_int (fun _ _ => rfl))) (pg_name (i := 3) sc_format_items.nd rfl (by first | exact Or.inl rfl | exact Or.inr rfl))
            (pss_one (ps_aug (i := 1) sc_format_items.nd rfl (by first | exact Or.inl rfl | exact Or.inr rfl) (pe_op op_cat (pe_lst (pa_cons pe_str pa_nil)) (pe_cl F_format_items (hr.mono (by omega)) (pa_cons (pv 3) pa_nil))) iop_ext)))))
          (pss_one (ps_if (pt_cmpR op_eq (pe_ix ix_tup (pv 2) pe_int (fun _ _ => rfl)) pe_str (nomark _))
            (pss_cons (ps_expr (pe_bm PySem.F.plainAttrs_list PySem.F.slot_list_append PySem.F.type_list_append mt_append (pv 1) (pa_cons (pe_joined (PJ.cons pe_str (PJ.cons (pe_fmt (pe_ix ix_tup (pv 2) pe_int (fun _ _ => rfl))) (PJ.cons pe_str (PJ.cons (pe_fmt (pe_ix ix_tup (pv 2) pe_int (fun _ _ => rfl))) PJ.nil))))) pa_nil)))
            (pss_one (ps_for PassesOwn.never rfl (pi_seq (pe_ix ix_tup (pv 2) pe_int (fun _ _ => rfl))) (pg_tup rfl (pgs_cons (pg_name (i := 4) sc_format_items.nd rfl (by first | exact Or.inl rfl | exact Or.inr rfl)) (pgs_cons (pg_name (i := 3) sc_format_items.nd rfl (by first | exact Or.inl rfl | exact Or.inr rfl)) pgs_nil)))
              (pss_one (ps_aug (i := 1) sc_format_items.nd rfl (by first | exact Or.inl rfl | exact Or.inr rfl) (pe_op op_cat (pe_lst (pa_cons (pe_joined (PJ.cons pe_str (PJ.cons (pe_fmt (pv 4)) PJ.nil))) pa_nil)) (pe_cl F_format_items (hr.mono (by omega)) (pa_cons (pv 3) pa_nil))) iop_ext)))))
            (pss_one (ps_expr (pe_bm PySem.F.plainAttrs_list PySem.F.slot_list_append PySem.F.type_list_append mt_append (pv 1) (pa_cons (pe_join pe_str (pe_lcs (pe_lc (own := [("part", 5)]) (g := gName 5) (tt := tYes) rfl sc_format_items.nd (pi_seq (pv 2)) (blkOk_by (own := [("part", 5)]) (N := N_format_items) (sc := defScope s_format_items) (by decide +kernel)) (fun _ _ _ _ _ => (pg_name (i := 5) sc_format_items.nd rfl (by first | exact Or.inl rfl | exact Or.inr rfl))) (fun _ _ _ _ _ => pts_nil) (fun _ _ _ _ _ => (pe_callTy call_strIS (by rfl) T.f_str (by decide +kernel) (pa_cons (pv 5) pa_nil)))))) pa_nil)))))))))
      (pss_one (ps_if (pt_cmpR op_in_seq (pe_ix ix_tup (pv 2) pe_int (fun _ _ => rfl)) (pe_tup (pa_cons pe_str (pa_cons pe_str (pa_cons pe_str pa_nil)))) (by rfl))
        (pss_one (ps_expr (pe_bm PySem.F.plainAttrs_list PySem.F.slot_list_append PySem.F.type_list_append mt_append (pv 1) (pa_cons pe_str pa_nil))))
        pss_nil))))
    (pss_one (ps_ret (pv 1))))), ?_⟩
  obtain ⟨a, vs, rfl, ha, hp, hlen⟩ := hl
  refine sq ⟨Nat.zero_le _, fun ln hln => ?_⟩
  have tot : (l.flatMap (lnw (d + 1))).length ≤ 300 := by
    have := linesL_le fun x hx => (ok x hx).a
    omega
  refine sq ⟨_, rfl, a, rfl, for_seq (z := z) (xs := vs) (fun i σ H' => ∃ v2 v3 v4 v5 F', σ = [some (.ref a), some (.ref ln), v2, v3, v4, v5] ∧ Eff [] F H F' H' ∧ F' ln = none ∧ H' ln = some (SL ((l.take i).flatMap (lnw (d + 1))))) ?_ ?_ ?_ ?_⟩
  · exact ⟨_, _, _, _, F, rfl, (Eff.refl sFH).loc hln, sFH.free hln, upd_same⟩
  · rintro i σ H1 _ ⟨_, _, _, _, F1, _, e1, _⟩
    exact e1.sub _ _ (e1.same _ _ ha)
  · rintro i y σ H1 hy ⟨v2, v3, v4, v5, F1, rfl, e1, fl1, hl1⟩
    obtain ⟨x, hx, hit⟩ := paired_at hp hy
    obtain ⟨r, hlr, htk⟩ := cut_at hx
    rw [htk]
    have hit1 := isIt_mono e1.same (d + 1) _ _ hit
    have okx := ok x (List.mem_of_getElem? hx)
    have len1 : ((l.take i).flatMap (lnw (d + 1))).length + (lnw (d + 1) x).length ≤ 300 := by
      have := congrArg (fun l => (l.flatMap (lnw (d + 1))).length) hlr
      simp only [List.flatMap_append, List.flatMap_cons, List.length_append] at this
      omega
    have n30 : (nms (d + 1) x).length ≤ 30 := by
      have := congrArg (fun l => (l.flatMap (nms (d + 1))).length) hlr
      simp only [List.flatMap_append, List.flatMap_cons, List.length_append] at this
      have h31 : (l.flatMap (nms (d + 1))).length ≤ 30 := h30
      omega
    rw [List.flatMap_append, List.flatMap_singleton]
    generalize (l.take i).flatMap (lnw (d + 1)) = pre at *
    obtain ⟨b, rfl, hx1⟩ := hit1
    match x, hx1, okx, len1, n30 with
    | .pl p, hx1, okx, len1, n30 =>
      have hx1 : F1 b = some (.tup p.vs) := hx1
      have hx2 := hx1
      rw [p.vs_eq] at hx1
      have hT : SqT K H1 b _ := SqT.of (e1.sub _ _ hx1)
      refine sq (r_kN rfl hT (pk_rep p) (r_kN rfl hT (pk_eit p) (r_kN rfl hT (pk_swi p) ?_)))
      obtain ⟨vis, hvis, hok⟩ := okx
      have lk : LineOk (p.vs.map txt) := plain_line hvis hok.1 hok.2
      have sml := plain_small (show OkP vis p from hok.2)
      refine ⟨_, rfl, .inl ⟨rfl, _, SqL.of hl1⟩, ⟨_, rfl⟩, _, rfl, b, rfl, lcp (.inr (SqT.of (e1.sub _ _ hx2))) (by cases p <;> simp [Plain.vs]) e1.sub (fun i y _ => ∃ v, p.vs[i]? = some v ∧ y = .str (txt v)) (fun _ _ _ _ _ h => h) (fun i v F' H' hv ef k hk => ?_) (fun D ys F2 H2 nD ef hD hl2 hR => ?_)⟩
      · refine ⟨rfl, _, rfl, ?_⟩
        rcases sml v (List.mem_of_getElem? hv) with ⟨n, rfl, h0, h1⟩ | ⟨y, rfl⟩
        · exact .inl ⟨n, rfl, log_small h0 h1, hk _ _ _ (Eff.refl ef.sub) ⟨_, hv, rfl⟩⟩
        · exact .inr ⟨y, rfl, hk _ _ _ (Eff.refl ef.sub) ⟨_, hv, rfl⟩⟩
      · have ey : ys = (p.vs.map txt).map V.str := by
          rw [List.map_map]
          exact list_of_at _ hl2 fun i y hi => hR i y hi
        subst ey
        have e2 := e1.pure ef
        have fl2 : F2 ln = none := ef.fresh _ fl1 (by rw [hl1]; intro z; cases z)
        have hl3 : H2 ln = _ := ef.all _ _ hl1
        refine ⟨_, D, _, rfl, rfl, .inl (SqL.of (ef.sub _ _ hD)), line_sum lk, ln, _, _, rfl, rfl, hl3, ?_, ?_⟩
        · rw [SL_len]
          exact Nat.lt_of_le_of_lt (show pre.length ≤ 300 by omega) (by decide)
        have e3 := e2.wr fl2 (.inr hln) (o := .lst ((pre.map jn).map V.str ++ [V.str (jn (p.vs.map txt))]))
        have hT3 : SqT K (upd H2 ln (.lst ((pre.map jn).map V.str ++ [V.str (jn (p.vs.map txt))]))) b _ := SqT.of (e3.sub _ _ (ef.same _ _ hx1))
        refine r_in (ls := ["repeat", "either", "switch"]) (fun Q h => h) rfl hT3 (by decide) fun H6 s6 => ?_
        rw [if_neg (by have z1 := pk_rep p; have z2 := pk_eit p; have z3 := pk_swi p; simp only [List.mem_cons, List.not_mem_nil, or_false, not_or]; exact ⟨z1, z2, z3⟩)]
        refine ⟨_, _, _, _, F2, rfl, e3.pure (Eff.of_same e3.sub s6), fl2, s6 _ _ ?_⟩
        rw [upd_same]
        exact congrArg some (SL_snoc (ws := p.vs.map txt))
    | .rep n u bl, ⟨w', hx1, hb⟩, okx, len1, n30 =>
      have hT : SqT K H1 b _ := SqT.of (e1.sub _ _ hx1)
      have okb := okN_blocks okx bl (List.mem_singleton.mpr rfl)
      obtain ⟨vis, hvis, hok⟩ := okx
      have wn : WordOk n := name_word hok.1
      have wu : WordOk (txt u.v) := use_word hvis (by decide) hok.2.2.1
      have len1 : pre.length + ((["repeat", n, txt u.v] : List Str) :: (bl.flatMap (lnw d) ++ [(["end"] : List Str)])).length ≤ 300 := len1
      rw [List.length_cons, List.length_append, List.length_singleton] at len1
      have n30 : (n :: nmsB d [bl]).length ≤ 30 := n30
      rw [List.length_cons, nmsB, List.flatMap_singleton] at n30
      refine sq (r_kY rfl hT (sq ?_))
      have z1 : (Str.empty ++ ("repeat " : Str)).length = 7 := by decide +kernel
      have z2 : (" " : Str).length = 1 := by decide +kernel
      have w1 := wn.1
      have w2 := wu.1
      refine ⟨_, rfl, .inl ⟨rfl, _, SqL.of hl1⟩, _, rfl, ?_, _, rfl, b, _, _, _, rfl, rfl, hT, at1, .inl ⟨n, rfl, len_le _ (by omega), _, rfl, ?_, _, rfl, ?_, _, rfl, b, _, _, _, rfl, rfl, hT, at2, fmt_u hvis (by decide) hok.2.2.1 ?_⟩⟩
      rotate_left 3
      refine ⟨_, rfl, ?_, ?_⟩
      rotate_left 2
      · rw [z1]
        decide
      · rw [Str.length_append, z1]
        exact len_le _ (by omega)
      · rw [Str.length_append, Str.length_append, z1, z2]
        exact len_le _ (by omega)
      · rw [Str.length_append, Str.length_append, Str.length_append, z1, z2]
        exact len_le _ (by omega)
      rw [js3 sp_repeat]
      refine ⟨ln, _, _, rfl, rfl, hl1, ?_, ?_⟩
      · rw [SL_len]
        exact Nat.lt_of_le_of_lt (show pre.length ≤ 300 by omega) (by decide)
      rw [SL_snoc]
      have e2 := e1.wr fl1 (.inr hln) (o := SL (pre ++ [(["repeat", n, txt u.v] : List Str)]))
      have hl2 : (upd H1 ln (SL (pre ++ [(["repeat", n, txt u.v] : List Str)]))) ln = _ := upd_same
      have hT2 : SqT K (upd H1 ln (SL (pre ++ [(["repeat", n, txt u.v] : List Str)]))) b _ := SqT.of (e2.sub _ _ hx1)
      refine ⟨_, rfl, _, rfl, b, _, _, _, rfl, rfl, hT2, at3, z, F1, w', bl, rfl, e2.sub, hb, okb, (by show (bl.flatMap (nms d)).length ≤ 30; omega), fun r3 F3 H3 e3 hr3 => ?_⟩
      have hl3 : H3 ln = _ := e3.all _ _ hl2
      have fl3 : F3 ln = none := e3.fresh _ fl1 (by rw [hl2]; intro z; cases z)
      refine ⟨ln, r3, _, _, rfl, rfl, hl3, e3.sub _ _ hr3, ?_, ?_⟩
      · rw [SL_len, SL_len, List.length_append, List.length_singleton]
        exact small (by omega)
      rw [SL_app]
      have eX := (e2.pure e3).wr fl3 (.inr hln) (o := SL (pre ++ [(["repeat", n, txt u.v] : List Str)] ++ bl.flatMap (lnw d)))
      have hlX : (upd H3 ln (SL (pre ++ [(["repeat", n, txt u.v] : List Str)] ++ bl.flatMap (lnw d)))) ln = _ := upd_same
      have flX := fl3
      have sX := e3.same
      have lenX : (pre ++ [(["repeat", n, txt u.v] : List Str)] ++ bl.flatMap (lnw d)).length ≤ 300 := by
        rw [List.length_append, List.length_append, List.length_singleton]
        omega
      generalize upd H3 ln (SL (pre ++ [(["repeat", n, txt u.v] : List Str)] ++ bl.flatMap (lnw d))) = HX at *
      generalize F3 = FX at *
      dsimp only
      have hTX : SqT K HX b _ := SqT.of (eX.sub _ _ (sX _ _ hx1))
      refine r_in (ls := ["repeat", "either", "switch"]) (fun Q h => h) rfl hTX (by decide) fun H6 s6 => ?_
      rw [if_pos (by decide +kernel)]
      have hl6 : H6 ln = _ := s6 _ _ hlX
      refine ⟨_, rfl, .inl ⟨rfl, _, SqL.of hl6⟩, ln, _, _, rfl, rfl, hl6, ?_, ?_⟩
      · rw [SL_len]
        exact Nat.lt_of_le_of_lt lenX (by decide)
      have e6 : Eff [] F H FX H6 := eX.pure (Eff.of_same eX.sub s6)
      refine ⟨_, _, _, _, FX, rfl, e6.wr flX (.inr hln), flX, ?_⟩
      rw [upd_same]
      refine (congrArg some (SL_snoc (ws := ["end"]))).trans ?_
      rw [List.append_assoc, List.append_assoc]
      rfl
    | .eit n bs, ⟨w', hx1, hb⟩, okx, len1, n30 =>
      have hT : SqT K H1 b _ := SqT.of (e1.sub _ _ hx1)
      have okb := okN_blocks okx
      obtain ⟨vis, hvis, hok⟩ := okx
      have wn : WordOk n := name_word hok.1
      have len1 : pre.length + ((["either", n] : List Str) :: ((bs.flatMap fun b => (["choice"] : List Str) :: b.flatMap (lnw d)) ++ [(["end"] : List Str)])).length ≤ 300 := len1
      rw [List.length_cons, List.length_append, List.length_singleton] at len1
      have n30 : (n :: nmsB d bs).length ≤ 30 := n30
      rw [List.length_cons] at n30
      refine sq (r_kN rfl hT es1 (r_kY rfl hT (sq ?_)))
      have z1 : (Str.empty ++ ("either " : Str)).length = 7 := by decide +kernel
      have w1 := wn.1
      refine ⟨_, rfl, .inl ⟨rfl, _, SqL.of hl1⟩, _, rfl, ?_, _, rfl, b, _, _, _, rfl, rfl, hT, at1, .inl ⟨n, rfl, len_le _ (by omega), _, rfl, ?_, ?_⟩⟩
      · rw [z1]
        decide
      · rw [Str.length_append, z1]
        exact len_le _ (by omega)
      rw [js2 sp_either]
      refine ⟨ln, _, _, rfl, rfl, hl1, ?_, ?_⟩
      · rw [SL_len]
        exact Nat.lt_of_le_of_lt (show pre.length ≤ 300 by omega) (by decide)
      rw [SL_snoc]
      have e2 := e1.wr fl1 (.inr hln) (o := SL (pre ++ [(["either", n] : List Str)]))
      have hl2 : (upd H1 ln (SL (pre ++ [(["either", n] : List Str)]))) ln = _ := upd_same
      have hT2 : SqT K (upd H1 ln (SL (pre ++ [(["either", n] : List Str)]))) b _ := SqT.of (e2.sub _ _ hx1)
      obtain ⟨wa, ws, rfl, hwa, hpw, hlw⟩ := hb
      dsimp only
      refine ⟨_, rfl, b, _, _, _, rfl, rfl, hT2, at2, wa, rfl, for_seq (z := z) (xs := ws) (fun j σ H' => ∃ v3 v4 v5 F', σ = [some (.ref a), some (.ref ln), some (.ref b), v3, v4, v5] ∧ Eff [] F H F' H' ∧ Same F1 F' ∧ F' ln = none ∧ H' ln = some (SL (pre ++ [(["either", n] : List Str)] ++ (bs.take j).flatMap fun b => (["choice"] : List Str) :: b.flatMap (lnw d)))) ?_ ?_ ?_ ?_⟩
      · refine ⟨_, _, _, F1, rfl, e2, fun _ _ h => h, fl1, ?_⟩
        rw [List.take_zero, List.flatMap_nil, List.append_nil]
        exact hl2
      · rintro j σ H3 _ ⟨_, _, _, F3, _, e3, s3, _⟩
        exact e3.sub _ _ (s3 _ _ hwa)
      · rintro j y σ H3 hy3 ⟨v3, v4, v5, F3, rfl, e3, s3, fl3, hl3⟩
        obtain ⟨bb, hbb, hib⟩ := paired_at hpw hy3
        obtain ⟨rr, hbr, hbt⟩ := cut_at hbb
        have len3 : ((bs.take j).flatMap fun b => (["choice"] : List Str) :: b.flatMap (lnw d)).length + (1 + (bb.flatMap (lnw d)).length) ≤ (bs.flatMap fun b => (["choice"] : List Str) :: b.flatMap (lnw d)).length := by
          have := congrArg (fun l : List (List (Itm d)) => (l.flatMap fun b => (["choice"] : List Str) :: b.flatMap (lnw d)).length) hbr
          simp only [List.flatMap_append, List.flatMap_cons, List.length_append, List.length_cons] at this
          omega
        have nm3 : (nmsL d bb).length ≤ 29 := by
          have := congrArg (fun l : List (List (Itm d)) => (nmsB d l).length) hbr
          simp only [nmsB, List.flatMap_append, List.flatMap_cons, List.length_append] at this n30
          rw [nmsL]
          omega
        rw [hbt, List.flatMap_append, List.flatMap_singleton]
        generalize ((bs.take j).flatMap fun b => (["choice"] : List Str) :: b.flatMap (lnw d)) = pb at *
        refine ⟨_, rfl, (by show 1 ≤ sizeLine; decide), fun p1 hp1 => ?_⟩
        have e4 := e3.put hp1 (o := .lst [.str "choice"])
        have s4 : Same F3 (upd F3 p1 (.lst [.str "choice"])) := same_new (e3.sub.free hp1) _
        have fl4 : (upd F3 p1 (.lst [.str "choice"])) ln = none := (upd_ne (ne_of_none hl3 hp1)).trans fl3
        have hl4 : (upd H3 p1 (.lst [.str "choice"])) ln = _ := (upd_ne (ne_of_none hl3 hp1)).trans hl3
        refine ⟨_, rfl, z, _, y, bb, rfl, e4.sub, isIts_mono (s3.trans s4) hib, okb bb (List.mem_of_getElem? hbb), by omega, fun r5 F5 H5 e5 hr5 => ?_⟩
        have hl5 : H5 ln = _ := e5.all _ _ hl4
        have fl5 : F5 ln = none := e5.fresh _ fl4 (by rw [hl4]; intro z; cases z)
        refine ⟨p1, r5, _, _, rfl, rfl, e5.sub _ _ (e5.same _ _ upd_same), e5.sub _ _ hr5, ?_, fun p np => ?_⟩
        · rw [SL_len]
          exact small (by show 1 + _ ≤ 1000; omega)
        have e45 := e4.pure e5
        have e6 := e45.put np (o := .lst ([V.str "choice"] ++ ((bb.flatMap (lnw d)).map jn).map V.str))
        have hl6 : (upd H5 p (.lst ([V.str "choice"] ++ ((bb.flatMap (lnw d)).map jn).map V.str))) ln = _ := (upd_ne (ne_of_none hl5 np)).trans hl5
        have fl6 : (upd F5 p (.lst ([V.str "choice"] ++ ((bb.flatMap (lnw d)).map jn).map V.str))) ln = none := (upd_ne (ne_of_none hl5 np)).trans fl5
        have ec : ([V.str "choice"] ++ ((bb.flatMap (lnw d)).map jn).map V.str : List V) = (((["choice"] : List Str) :: bb.flatMap (lnw d)).map jn).map V.str := rfl
        refine ⟨ln, p, _, _, rfl, rfl, hl6, upd_same, ?_, ?_⟩
        · rw [SL_len, ec, SL_len, List.length_append, List.length_append, List.length_singleton, List.length_cons]
          exact small (by omega)
        refine ⟨_, _, _, _, rfl, e6.wr fl6 (.inr hln), s3.trans (s4.trans (e5.same.trans (same_new (e45.sub.free np) _))), fl6, ?_⟩
        rw [upd_same, ec, SL_app, List.append_assoc]
      · rintro σ HX ⟨v3, v4, v5, FX, rfl, eX, sX, flX, hlX⟩
        rw [paired_len hpw, List.take_length] at hlX
        have lenX : (pre ++ [(["either", n] : List Str)] ++ bs.flatMap fun b => (["choice"] : List Str) :: b.flatMap (lnw d)).length ≤ 300 := by
          rw [List.length_append, List.length_append, List.length_singleton]
          omega
        have hTX : SqT K HX b _ := SqT.of (eX.sub _ _ (sX _ _ hx1))
        refine r_in (ls := ["repeat", "either", "switch"]) (fun Q h => h) rfl hTX (by decide) fun H6 s6 => ?_
        rw [if_pos (by decide +kernel)]
        have hl6 : H6 ln = _ := s6 _ _ hlX
        refine ⟨_, rfl, .inl ⟨rfl, _, SqL.of hl6⟩, ln, _, _, rfl, rfl, hl6, ?_, ?_⟩
        · rw [SL_len]
          exact Nat.lt_of_le_of_lt lenX (by decide)
        have e6 : Eff [] F H FX H6 := eX.pure (Eff.of_same eX.sub s6)
        refine ⟨_, _, _, _, FX, rfl, e6.wr flX (.inr hln), flX, ?_⟩
        rw [upd_same]
        refine (congrArg some (SL_snoc (ws := ["end"]))).trans ?_
        rw [List.append_assoc, List.append_assoc]
        rfl
    | .swi n t cs, ⟨w', hx1, hb⟩, okx, len1, n30 =>
      have hT : SqT K H1 b _ := SqT.of (e1.sub _ _ hx1)
      have okb := okN_blocks okx
      obtain ⟨vis, hvis, hok⟩ := okx
      have wn : WordOk n := name_word hok.1
      have wt : WordOk t := by
        obtain ⟨lo, hi, ht⟩ := hok.2.2.1
        exact name_word (hvis _ ht)
      have len1 : pre.length + ((["switch", n, t] : List Str) :: ((cs.flatMap fun c => (["case", txt (.int c.1)] : List Str) :: c.2.flatMap (lnw d)) ++ [(["end"] : List Str)])).length ≤ 300 := len1
      rw [List.length_cons, List.length_append, List.length_singleton] at len1
      have n30 : (n :: nmsB d (cs.map (·.2))).length ≤ 30 := n30
      rw [List.length_cons, nmsB, List.flatMap_map] at n30
      refine sq (r_kN rfl hT es2 (r_kN rfl hT es3 (r_kY rfl hT (sq ?_))))
      have z1 : (Str.empty ++ ("switch " : Str)).length = 7 := by decide +kernel
      have z2 : (" " : Str).length = 1 := by decide +kernel
      have w1 := wn.1
      have w2 := wt.1
      refine ⟨_, rfl, .inl ⟨rfl, _, SqL.of hl1⟩, _, rfl, ?_, _, rfl, b, _, _, _, rfl, rfl, hT, at1, .inl ⟨n, rfl, len_le _ (by omega), _, rfl, ?_, _, rfl, ?_, _, rfl, b, _, _, _, rfl, rfl, hT, at2, .inl ⟨t, rfl, len_le _ (by omega), _, rfl, ?_, ?_⟩⟩⟩
      · rw [z1]
        decide
      · rw [Str.length_append, z1]
        exact len_le _ (by omega)
      · rw [Str.length_append, Str.length_append, z1, z2]
        exact len_le _ (by omega)
      · rw [Str.length_append, Str.length_append, Str.length_append, z1, z2]
        exact len_le _ (by omega)
      rw [js3 sp_switch]
      refine ⟨ln, _, _, rfl, rfl, hl1, ?_, ?_⟩
      · rw [SL_len]
        exact Nat.lt_of_le_of_lt (show pre.length ≤ 300 by omega) (by decide)
      rw [SL_snoc]
      have e2 := e1.wr fl1 (.inr hln) (o := SL (pre ++ [(["switch", n, t] : List Str)]))
      have hl2 : (upd H1 ln (SL (pre ++ [(["switch", n, t] : List Str)]))) ln = _ := upd_same
      have hT2 : SqT K (upd H1 ln (SL (pre ++ [(["switch", n, t] : List Str)]))) b _ := SqT.of (e2.sub _ _ hx1)
      obtain ⟨wa, ws, rfl, hwa, hpw, hlw⟩ := hb
      dsimp only
      refine ⟨_, rfl, b, _, _, _, rfl, rfl, hT2, at3, wa, rfl, for_seq (z := z) (xs := ws) (fun j σ H' => ∃ v3 v4 v5 F', σ = [some (.ref a), some (.ref ln), some (.ref b), v3, v4, v5] ∧ Eff [] F H F' H' ∧ Same F1 F' ∧ F' ln = none ∧ H' ln = some (SL (pre ++ [(["switch", n, t] : List Str)] ++ (cs.take j).flatMap fun c => (["case", txt (.int c.1)] : List Str) :: c.2.flatMap (lnw d)))) ?_ ?_ ?_ ?_⟩
      · refine ⟨_, _, _, F1, rfl, e2, fun _ _ h => h, fl1, ?_⟩
        rw [List.take_zero, List.flatMap_nil, List.append_nil]
        exact hl2
      · rintro j σ H3 _ ⟨_, _, _, F3, _, e3, s3, _⟩
        exact e3.sub _ _ (s3 _ _ hwa)
      · rintro j y σ H3 hy3 ⟨v3, v4, v5, F3, rfl, e3, s3, fl3, hl3⟩
        obtain ⟨cc, hbb, ce, cw, rfl, hce, hib⟩ := paired_at hpw hy3
        obtain ⟨rr, hbr, hbt⟩ := cut_at hbb
        have hcc := List.mem_of_getElem? hbb
        have cv := (hok.2.2.2.2.2.2 cc hcc).1
        have len3 : ((cs.take j).flatMap fun c => (["case", txt (.int c.1)] : List Str) :: c.2.flatMap (lnw d)).length + (1 + (cc.2.flatMap (lnw d)).length) ≤ (cs.flatMap fun c => (["case", txt (.int c.1)] : List Str) :: c.2.flatMap (lnw d)).length := by
          have := congrArg (fun l : List (Int × List (Itm d)) => (l.flatMap fun c => (["case", txt (.int c.1)] : List Str) :: c.2.flatMap (lnw d)).length) hbr
          simp only [List.flatMap_append, List.flatMap_cons, List.length_append, List.length_cons] at this
          omega
        have nm3 : (nmsL d cc.2).length ≤ 29 := by
          have := congrArg (fun l : List (Int × List (Itm d)) => (l.flatMap fun c => c.2.flatMap (nms d)).length) hbr
          simp only [List.flatMap_append, List.flatMap_cons, List.length_append] at this n30
          rw [nmsL]
          omega
        rw [hbt, List.flatMap_append, List.flatMap_singleton]
        generalize ((cs.take j).flatMap fun c => (["case", txt (.int c.1)] : List Str) :: c.2.flatMap (lnw d)) = pb at *
        have z3 : (Str.empty ++ ("case " : Str)).length = 5 := by decide +kernel
        have w3 : (txt (.int cc.1)).length ≤ 20 := (int_word cv.1 cv.2).1
        refine ⟨ce, _, rfl, SqT.of (e3.sub _ _ (s3 _ _ hce)), rfl, _, _, rfl, _, _, rfl, rfl, ?_⟩
        refine ⟨_, rfl, _, rfl, ?_, _, rfl, .inr ⟨cc.1, rfl, log_small cv.1 cv.2, _, rfl, ?_, ?_⟩⟩
        · rw [z3]
          decide
        · rw [Str.length_append, z3]
          exact len_le _ (by have : (Str.ofString (toString cc.1)).length ≤ 20 := w3; omega)
        rw [show Str.empty ++ ("case " : Str) ++ Str.ofString (toString cc.1) = jn ["case", txt (.int cc.1)] from js2 sp_case _]
        refine ⟨(by show 1 ≤ sizeLine; decide), fun p1 hp1 => ?_⟩
        have e4 := e3.put hp1 (o := .lst [.str (jn ["case", txt (.int cc.1)])])
        have s4 : Same F3 (upd F3 p1 (.lst [.str (jn ["case", txt (.int cc.1)])])) := same_new (e3.sub.free hp1) _
        have fl4 : (upd F3 p1 (.lst [.str (jn ["case", txt (.int cc.1)])])) ln = none := (upd_ne (ne_of_none hl3 hp1)).trans fl3
        have hl4 : (upd H3 p1 (.lst [.str (jn ["case", txt (.int cc.1)])])) ln = _ := (upd_ne (ne_of_none hl3 hp1)).trans hl3
        refine ⟨_, rfl, z, _, cw, cc.2, rfl, e4.sub, isIts_mono (s3.trans s4) hib, okb cc.2 (List.mem_map.mpr ⟨cc, hcc, rfl⟩), by omega, fun r5 F5 H5 e5 hr5 => ?_⟩
        have hl5 : H5 ln = _ := e5.all _ _ hl4
        have fl5 : F5 ln = none := e5.fresh _ fl4 (by rw [hl4]; intro z; cases z)
        refine ⟨p1, r5, _, _, rfl, rfl, e5.sub _ _ (e5.same _ _ upd_same), e5.sub _ _ hr5, ?_, fun p np => ?_⟩
        · rw [SL_len]
          exact small (by show 1 + _ ≤ 1000; omega)
        have e45 := e4.pure e5
        have e6 := e45.put np (o := .lst ([V.str (jn ["case", txt (.int cc.1)])] ++ ((cc.2.flatMap (lnw d)).map jn).map V.str))
        have hl6 : (upd H5 p (.lst ([V.str (jn ["case", txt (.int cc.1)])] ++ ((cc.2.flatMap (lnw d)).map jn).map V.str))) ln = _ := (upd_ne (ne_of_none hl5 np)).trans hl5
        have fl6 : (upd F5 p (.lst ([V.str (jn ["case", txt (.int cc.1)])] ++ ((cc.2.flatMap (lnw d)).map jn).map V.str))) ln = none := (upd_ne (ne_of_none hl5 np)).trans fl5
        have ec : ([V.str (jn ["case", txt (.int cc.1)])] ++ ((cc.2.flatMap (lnw d)).map jn).map V.str : List V) = (((["case", txt (.int cc.1)] : List Str) :: cc.2.flatMap (lnw d)).map jn).map V.str := rfl
        refine ⟨ln, p, _, _, rfl, rfl, hl6, upd_same, ?_, ?_⟩
        · rw [SL_len, ec, SL_len, List.length_append, List.length_append, List.length_singleton, List.length_cons]
          exact small (by omega)
        refine ⟨_, _, _, _, rfl, e6.wr fl6 (.inr hln), s3.trans (s4.trans (e5.same.trans (same_new (e45.sub.free np) _))), fl6, ?_⟩
        rw [upd_same, ec, SL_app, List.append_assoc]
      · rintro σ HX ⟨v3, v4, v5, FX, rfl, eX, sX, flX, hlX⟩
        rw [paired_len hpw, List.take_length] at hlX
        have lenX : (pre ++ [(["switch", n, t] : List Str)] ++ cs.flatMap fun c => (["case", txt (.int c.1)] : List Str) :: c.2.flatMap (lnw d)).length ≤ 300 := by
          rw [List.length_append, List.length_append, List.length_singleton]
          omega
        have hTX : SqT K HX b _ := SqT.of (eX.sub _ _ (sX _ _ hx1))
        refine r_in (ls := ["repeat", "either", "switch"]) (fun Q h => h) rfl hTX (by decide) fun H6 s6 => ?_
        rw [if_pos (by decide +kernel)]
        have hl6 : H6 ln = _ := s6 _ _ hlX
        refine ⟨_, rfl, .inl ⟨rfl, _, SqL.of hl6⟩, ln, _, _, rfl, rfl, hl6, ?_, ?_⟩
        · rw [SL_len]
          exact Nat.lt_of_le_of_lt lenX (by decide)
        have e6 : Eff [] F H FX H6 := eX.pure (Eff.of_same eX.sub s6)
        refine ⟨_, _, _, _, FX, rfl, e6.wr flX (.inr hln), flX, ?_⟩
        rw [upd_same]
        refine (congrArg some (SL_snoc (ws := ["end"]))).trans ?_
        rw [List.append_assoc, List.append_assoc]
        rfl
  · rintro σ H1 ⟨v2, v3, v4, v5, F1, rfl, e1, fl1, hl1⟩
    rw [paired_len hp, List.take_length] at hl1
    exact ⟨_, rfl, q ln _ H1 (e1.frz hln hl1) upd_same⟩
end
end K6
set_option Elab.async false
set_option linter.all false
set_option maxRecDepth 100000
set_option maxHeartbeats 4000000
namespace K6
open PySem PySem.Spec PyProof.Rows L2
def txtOf (d : Nat) (l : List (Itm d)) : Str := Txt.join "\n" ((l.flatMap (lnw d)).map jn)
theorem txt_sum {d : Nat} {l : List (Itm d)} (ok : ∀ x ∈ l, OkN d x) (h30 : (nmsL d l).length ≤ 30) : (((l.flatMap (lnw d)).map jn).map (·.length)).sum + ((l.flatMap (lnw d)).map jn).length * ("\n" : Str).length ≤ 50000 := by
  have h1 : ("\n" : Str).length = 1 := by decide +kernel
  have h2 := linesL_le fun x hx => (ok x hx).a
  have h3 := sum_le (l := (l.flatMap (lnw d)).map jn) (f := fun x => x.length) (g := fun _ => 126) fun x hx => by
    obtain ⟨ws, hw, rfl⟩ := List.mem_map.mp hx
    obtain ⟨y, hy, hw⟩ := List.mem_flatMap.mp hw
    exact line_len (line_ok d y (ok y hy) ws hw)
  rw [sum_const, List.length_map] at h3
  rw [h1, List.length_map]
  have h4 : (((l.flatMap (lnw d)).map jn).map (·.length)).sum ≤ 126 * (l.flatMap (lnw d)).length := h3
  omega
section
variable {P : Program} {w : World} {K : PySem.W.Frag} {mg : Str → Option Value} {base : Heap} {f : Addr} {fd : FuncData}
theorem format_all (F : Fun K "format_items" "format_items" s_format_items f fd) (hm : mg "format_items" = some (.ref f)) (T : Tx w K mg) : ∀ d, Fc P w K mg base (d + 1) "format_items" (spFmt d)
  | 0 => fc_of hm F.kp (by
      have h0 : FnR P w K mg base CX0 1 f (spFmt 0) := by
        refine raw_of F sc_format_items b_format_items (fun vs H Q E h => by obtain ⟨_, _, _, _, rfl, _⟩ := h; rfl) (fun cdv A outer s H vs Q E hr h => ?_)
        obtain ⟨z, F, v, l, rfl, sFH, hl, ok, h30, q⟩ := h
        have F_format_items : Fc P w K mg base 0 "format_items" (fun _ _ _ _ => False) := fc_of hm ‹Fun K _ _ _ f fd›.kp (fnR_no fun _ _ _ _ h => h)
        refine ⟨_, (pss_cons (ps_set (i := 1) sc_format_items.nd rfl (by first | exact Or.inl rfl | exact Or.inr rfl) (pe_lst pa_nil))
    (pss_cons (ps_for PassesOwn.never rfl (pi_seq (pv 0)) (pg_name (i := 2) sc_format_items.nd rfl (by first | exact Or.inl rfl | exact Or.inr rfl))
      (pss_cons (ps_if (pt_cmpR op_eq (pe_ix ix_tup (pv 2) pe_int (fun _ _ => rfl)) pe_str (nomark _))
        (pss_cons (ps_expr (pe_bm PySem.F.plainAttrs_list PySem.F.slot_list_append PySem.F.type_list_append mt_append (pv 1) (pa_cons (pe_joined (PJ.cons pe_str (PJ.cons (pe_fmt (pe_ix ix_tup (pv 2) pe_int (fun _ _ => rfl))) (PJ.cons pe_str (PJ.cons (pe_fmt (pe_ix ix_tup (pv 2) pe_int (fun _ _ => rfl))) PJ.nil))))) pa_nil)))
        (pss_one (ps_aug (i := 1) sc_format_items.nd rfl (by first | exact Or.inl rfl | exact Or.inr rfl) (pe_cl F_format_items (hr.mono (by omega)) (pa_cons (pe_ix ix_tup (pv 2) pe_int (fun _ _ => rfl)) pa_nil)) iop_ext)))
        (pss_one (ps_if (pt_cmpR op_eq (pe_ix ix_tup (pv 2) pe_int (fun _ _ => rfl)) pe_str (nomark _))
          (pss_cons (ps_expr (pe_bm PySem.F.plainAttrs_list PySem.F.slot_list_append PySem.F.type_list_append mt_append (pv 1) (pa_cons (pe_joined (PJ.cons pe_str (PJ.cons (pe_fmt (pe_ix ix_tup (pv 2) pe_int (fun _ _ => rfl))) PJ.nil))) pa_nil)))
          (pss_one (ps_for PassesOwn.never rfl (pi_seq (pe_ix ix_tup (pv 2) pe_int (fun _ _ => rfl))) (pg_name (i := 3) sc_format_items.nd rfl (by first | exact Or.inl rfl | exact Or.inr rfl))
            (pss_one (ps_aug (i := 1) sc_format_items.nd rfl (by first | exact Or.inl rfl | exact Or.inr rfl) (pe_op op_cat (pe_lst (pa_cons pe_str pa_nil)) (pe_cl F_format_items (hr.mono (by omega)) (pa_cons (pv 3) pa_nil))) iop_ext)))))
          (pss_one (ps_if (pt_cmpR op_eq (pe_ix ix_tup (pv 2) pe_int (fun _ _ => rfl)) pe_str (nomark _))
            (pss_cons (ps_expr (pe_bm PySem.F.plainAttrs_list PySem.F.slot_list_append PySem.F.type_list_append mt_append (pv 1) (pa_cons (pe_joined (PJ.cons pe_str (PJ.cons (pe_fmt (pe_ix ix_tup (pv 2) pe_int (fun _ _ => rfl))) (PJ.cons pe_str (PJ.cons (pe_fmt (pe_ix ix_tup (pv 2) pe_int (fun _ _ => rfl))) PJ.nil))))) pa_nil)))
            (pss_one (ps_for PassesOwn.never rfl (pi_seq (pe_ix ix_tup (pv 2) pe_int (fun _ _ => rfl))) (pg_tup rfl (pgs_cons (pg_name (i := 4) sc_format_items.nd rfl (by first | exact Or.inl rfl | exact Or.inr rfl)) (pgs_cons (pg_name (i := 3) sc_format_items.nd rfl (by first | exact Or.inl rfl | exact Or.inr rfl)) pgs_nil)))
              (pss_one (ps_aug (i := 1) sc_format_items.nd rfl (by first | exact Or.inl rfl | exact Or.inr rfl) (pe_op op_cat (pe_lst (pa_cons (pe_joined (PJ.cons pe_str (PJ.cons (pe_fmt (pv 4)) PJ.nil))) pa_nil)) (pe_cl F_format_items (hr.mono (by omega)) (pa_cons (pv 3) pa_nil))) iop_ext)))))
            (pss_one (ps_expr (pe_bm PySem.F.plainAttrs_list PySem.F.slot_list_append PySem.F.type_list_append mt_append (pv 1) (pa_cons (pe_join pe_str (pe_lcs (pe_lc (own := [("part", 5)]) (g := gName 5) (tt := tYes) rfl sc_format_items.nd (pi_seq (pv 2)) (blkOk_by (own := [("part", 5)]) (N := N_format_items) (sc := defScope s_format_items) (by decide +kernel)) (fun _ _ _ _ _ => (pg_name (i := 5) sc_format_items.nd rfl (by first | exact Or.inl rfl | exact Or.inr rfl))) (fun _ _ _ _ _ => pts_nil) (fun _ _ _ _ _ => (pe_callTy call_strIS (by rfl) T.f_str (by decide +kernel) (pa_cons (pv 5) pa_nil)))))) pa_nil)))))))))
      (pss_one (ps_if (pt_cmpR op_in_seq (pe_ix ix_tup (pv 2) pe_int (fun _ _ => rfl)) (pe_tup (pa_cons pe_str (pa_cons pe_str (pa_cons pe_str pa_nil)))) (by rfl))
        (pss_one (ps_expr (pe_bm PySem.F.plainAttrs_list PySem.F.slot_list_append PySem.F.type_list_append mt_append (pv 1) (pa_cons pe_str pa_nil))))
        pss_nil))))
    (pss_one (ps_ret (pv 1))))), ?_⟩
        obtain ⟨a, vs, rfl, ha, hp, hlen⟩ := hl
        have l0 : l = [] := by
          cases l with
          | nil => rfl
          | cons x r => exact nomatch (show Empty from x)
        subst l0
        have v0 : vs = [] := List.length_eq_zero_iff.mp (paired_len hp)
        subst v0
        refine sq ⟨Nat.zero_le _, fun ln hln => ?_⟩
        have e1 := (Eff.refl sFH (M := [])).loc hln (o := .lst [])
        refine sq ⟨_, rfl, a, rfl, for_seq (z := z) (xs := []) (fun i σ H' => ∃ v2 v3 v4 v5, σ = [some (.ref a), some (.ref ln), v2, v3, v4, v5] ∧ H' = upd H ln (.lst [])) ⟨_, _, _, _, rfl, rfl⟩ (fun i σ H1 _ ⟨_, _, _, _, _, e⟩ => by rw [e]; exact e1.sub _ _ ha) (fun i y σ H1 hy => by simp at hy) (fun σ H1 ⟨_, _, _, _, es, e⟩ => by
          subst es
          subst e
          exact ⟨_, rfl, q ln _ _ (e1.frz hln upd_same) upd_same⟩)⟩
      exact h0)
  | d + 1 => fc_of hm F.kp (ok_format_items F T (format_all F hm T d))
def spFmtShape (K : PySem.W.Frag) (d : Nat) : Sp := fun vs H Q _ => ∃ (F : Hp) (a : Addr) (l : List (Itm d)), vs = [.ref a] ∧ Same F H ∧ ShapeAt (CS K) F d a l ∧ (∀ x ∈ l, OkN d x) ∧ (nmsL d l).length ≤ 30 ∧ ∀ H', Same H H' → Q (.str (txtOf d l)) H'
abbrev s_format_shape : Stmt := top 38
abbrev N_format_shape : List Str := ["shape"]
theorem sc_format_shape : FnScope N_format_shape ["shape"] (defScope s_format_shape) := ⟨rfl, rfl, rfl, by decide +kernel, rfl, by decide +kernel, by decide +kernel⟩
theorem b_format_shape (kV doc pm : Value) (an : Option Addr) (cdv ct : Value) (us : List Value) (hl : us.length = (["shape"] : List Str).length) : bindArgs (PySem.W.fnOf "format_shape" "format_shape" (defArgs s_format_shape) (defBody s_format_shape) (defScope s_format_shape) .none kV doc pm an cdv ct) ⟨us, []⟩ = pure ((["shape"] : List Str).zip us) := match us, hl with | [_], _ => rfl
theorem ok_format_shape {d k : Nat} (F : Fun K "format_shape" "format_shape" s_format_shape f fd) (T : Tx w K mg) (F_format_items : Fc P w K mg base k "format_items" (spFmt d)) : FnR P w K mg base CX0 (k + 1) f (spFmtShape K d) := by
  refine raw_of F sc_format_shape b_format_shape (fun vs H Q E h => by obtain ⟨_, _, _, rfl, _⟩ := h; rfl) (fun cdv A outer s H vs Q E hr h => ?_)
  obtain ⟨F, a, l, rfl, sFH, hs, ok, h30, q⟩ := h
  refine ⟨_, (pss_one (ps_ret (pe_join pe_str (pe_cl F_format_items (hr.mono (by omega)) (pa_cons (pe_fld (pv 0) (by rfl)) pa_nil))))), ?_⟩
  obtain ⟨dx, pv, tn, bd, h1, h2, h3, h4, h5⟩ := hs
  refine ⟨⟨_, rfl⟩, _, rfl, a, _, dx, _, _, rfl, sFH _ _ h1, T.c_Shape, T.n_Shape_parts, shf_parts, true, F, pv, l, rfl, sFH, h2, ok, h30, fun r F' H' e hr' => ?_⟩
  exact ⟨_, r, _, rfl, rfl, .inl (SqL.of (e.sub _ _ hr')), Nat.le_trans (txt_sum ok h30) (by decide), q H' e.all⟩
/-! ### the lengths -/
theorem pc_of {x qual : Str} {st : Stmt} {f C : Addr} {fd : FuncData} {N ps : List Str} {k : Nat} {sp : Sp} (F : Fun K x qual st f fd) (S : FnScope N ps (defScope st)) {p : Addr} (hp : PropOf K C x p f)
    (hb : ∀ (kV doc pm : Value) (an : Option Addr) (cdv ct : Value) (us : List Value), us.length = ps.length → bindArgs (PySem.W.fnOf x qual (defArgs st) (defBody st) (defScope st) .none kV doc pm an cdv ct) ⟨us, []⟩ = pure (ps.zip us))
    (len : ∀ vs H Q E, sp vs H Q E → vs.length = ps.length)
    (hbody : ∀ (cdv : Value) (A : Around) (outer : List Env) (s : Shared) (H : Hp) (vs : List V) (Q : VK) (E : XK), Room k (A.deeper (envOfC qual (defScope st) s.heap.objs.size f cdv)) → sp vs H Q E →
      ∃ t, PSs (cxOf CX0 P w K mg base N qual (defScope st) f cdv A outer s H E).nox (defBody st) t ∧ t { nx := fun _ H' => Q .non H', rt := Q } (start N vs) H) : Pc P w K mg base (k + 1) C x sp :=
  ⟨p, f, fd, ps, hp, F.ok S len hbody, F.binds hb⟩
def spLen (K : PySem.W.Frag) (d : Nat) (g : List (Itm d) → Int) : Sp := fun vs H Q _ => ∃ (F : Hp) (a : Addr) (l : List (Itm d)), vs = [.ref a] ∧ Same F H ∧ ShapeAt (CS K) F d a l ∧ ∀ H', Same H H' → Q (.int (g l)) H'
abbrev s_Shape_least_length : Stmt := inClass (top 32) 1
abbrev N_Shape_least_length : List Str := ["self"]
theorem sc_Shape_least_length : FnScope N_Shape_least_length ["self"] (defScope s_Shape_least_length) := ⟨rfl, rfl, rfl, by decide +kernel, rfl, by decide +kernel, by decide +kernel⟩
theorem b_Shape_least_length (kV doc pm : Value) (an : Option Addr) (cdv ct : Value) (us : List Value) (hl : us.length = (["self"] : List Str).length) : bindArgs (PySem.W.fnOf "least_length" "Shape.least_length" (defArgs s_Shape_least_length) (defBody s_Shape_least_length) (defScope s_Shape_least_length) .none kV doc pm an cdv ct) ⟨us, []⟩ = pure ((["self"] : List Str).zip us) := match us, hl with | [_], _ => rfl
theorem ok_least_length {d k : Nat} {p : Addr} (F : Fun K "least_length" "Shape.least_length" s_Shape_least_length f fd) (hp : PropOf K (CS K) "least_length" p f) (T : Tx w K mg) (F_least_of_items : Fc P w K mg base k "least_of_items" (spLeastItems d)) :
    Pc P w K mg base (k + 1) (CS K) "least_length" (spLen K d fun l => (l.map (least (numsL d l) d)).sum) := by
  refine pc_of F sc_Shape_least_length hp b_Shape_least_length (fun vs H Q E h => by obtain ⟨_, _, _, rfl, _⟩ := h; rfl) (fun cdv A outer s H vs Q E hr h => ?_)
  obtain ⟨F, a, l, rfl, sFH, hs, q⟩ := h
  refine ⟨_, (pss_one (ps_ret (pe_cl F_least_of_items (hr.mono (by omega)) (pa_cons (pe_fld (pv 0) (by rfl)) (pa_cons (pe_fld (pv 0) (by rfl)) pa_nil))))), ?_⟩
  obtain ⟨dx, pv, tn, bd, h1, h2, h3, h4, h5⟩ := hs
  exact ⟨_, rfl, a, _, dx, _, _, rfl, sFH _ _ h1, T.c_Shape, T.n_Shape_parts, shf_parts, _, rfl, a, _, dx, _, _, rfl, sFH _ _ h1, T.c_Shape, T.n_Shape_bounds, shf_bounds, true, pv, bd, l, _, rfl, isIts_mono sFH h2, isEnv_same sFH sFH h4, h5, q⟩
abbrev s_Shape_greatest_length : Stmt := inClass (top 32) 2
abbrev N_Shape_greatest_length : List Str := ["self"]
theorem sc_Shape_greatest_length : FnScope N_Shape_greatest_length ["self"] (defScope s_Shape_greatest_length) := ⟨rfl, rfl, rfl, by decide +kernel, rfl, by decide +kernel, by decide +kernel⟩
theorem b_Shape_greatest_length (kV doc pm : Value) (an : Option Addr) (cdv ct : Value) (us : List Value) (hl : us.length = (["self"] : List Str).length) : bindArgs (PySem.W.fnOf "greatest_length" "Shape.greatest_length" (defArgs s_Shape_greatest_length) (defBody s_Shape_greatest_length) (defScope s_Shape_greatest_length) .none kV doc pm an cdv ct) ⟨us, []⟩ = pure ((["self"] : List Str).zip us) := match us, hl with | [_], _ => rfl
theorem ok_greatest_length {d k : Nat} {p : Addr} (F : Fun K "greatest_length" "Shape.greatest_length" s_Shape_greatest_length f fd) (hp : PropOf K (CS K) "greatest_length" p f) (T : Tx w K mg) (F_greatest_of_items : Fc P w K mg base k "greatest_of_items" (spGreatItems d)) :
    Pc P w K mg base (k + 1) (CS K) "greatest_length" (spLen K d fun l => (l.map (great (numsL d l) d)).sum) := by
  refine pc_of F sc_Shape_greatest_length hp b_Shape_greatest_length (fun vs H Q E h => by obtain ⟨_, _, _, rfl, _⟩ := h; rfl) (fun cdv A outer s H vs Q E hr h => ?_)
  obtain ⟨F, a, l, rfl, sFH, hs, q⟩ := h
  refine ⟨_, (pss_one (ps_ret (pe_cl F_greatest_of_items (hr.mono (by omega)) (pa_cons (pe_fld (pv 0) (by rfl)) (pa_cons (pe_fld (pv 0) (by rfl)) pa_nil))))), ?_⟩
  obtain ⟨dx, pv, tn, bd, h1, h2, h3, h4, h5⟩ := hs
  exact ⟨_, rfl, a, _, dx, _, _, rfl, sFH _ _ h1, T.c_Shape, T.n_Shape_parts, shf_parts, _, rfl, a, _, dx, _, _, rfl, sFH _ _ h1, T.c_Shape, T.n_Shape_bounds, shf_bounds, true, pv, bd, l, _, rfl, isIts_mono sFH h2, isEnv_same sFH sFH h4, h5, q⟩
end
end K6
set_option Elab.async false
set_option linter.all false
set_option maxRecDepth 100000
set_option maxHeartbeats 4000000
namespace K6
open PySem PySem.Spec PyProof.Rows L2
section
variable {P : Program} {w : World} {K : PySem.W.Frag} {mg : Str → Option Value} {base : Heap} {f : Addr} {fd : FuncData}
/-! ### _law_frozen -/
def spFrozen (d : Nat) : Sp := fun vs H Q _ => ∃ (F : Hp) (v : V) (l : List (Itm d)), vs = [v] ∧ Same F H ∧ IsIts false F d v l ∧ ∀ r F' H', Eff [] F H F' H' → IsIts true F' d r l → Q r H'
abbrev s__law_frozen : Stmt := top 56
abbrev N__law_frozen : List Str := ["_law_items_here", "_law_found", "_law_item_here", "_law_block_here", "_law_case"]
theorem sc__law_frozen : FnScope N__law_frozen ["_law_items_here"] (defScope s__law_frozen) := ⟨rfl, rfl, rfl, by decide +kernel, rfl, by decide +kernel, by decide +kernel⟩
theorem b__law_frozen (kV doc pm : Value) (an : Option Addr) (cdv ct : Value) (us : List Value) (hl : us.length = (["_law_items_here"] : List Str).length) : bindArgs (PySem.W.fnOf "_law_frozen" "_law_frozen" (defArgs s__law_frozen) (defBody s__law_frozen) (defScope s__law_frozen) .none kV doc pm an cdv ct) ⟨us, []⟩ = pure ((["_law_items_here"] : List Str).zip us) := match us, hl with | [_], _ => rfl
theorem ok_law_frozen0 (F : Fun K "_law_frozen" "_law_frozen" s__law_frozen f fd) (hm : mg "_law_frozen" = some (.ref f)) (T : Tx w K mg) : FnR P w K mg base CX0 1 f (spFrozen 0) := by
  refine raw_of F sc__law_frozen b__law_frozen (fun vs H Q E h => by obtain ⟨_, _, _, rfl, _⟩ := h; rfl) (fun cdv A outer s H vs Q E hr h => ?_)
  obtain ⟨F, v, l, rfl, sFH, hl, q⟩ := h
  have F__law_frozen : Fc P w K mg base 0 "_law_frozen" (fun _ _ _ _ => False) := fc_of hm ‹Fun K _ _ _ f fd›.kp (fnR_no fun _ _ _ _ h => h)
  refine ⟨_, (pss_cons (ps_set (i := 1) sc__law_frozen.nd rfl (by first | exact Or.inl rfl | exact Or.inr rfl) (pe_lst pa_nil))
    (pss_cons (ps_for PassesOwn.never rfl (pi_seq (pv 0)) (pg_name (i := 2) sc__law_frozen.nd rfl (by first | exact Or.inl rfl | exact Or.inr rfl))
      (pss_one (ps_if (pt_cmpR op_eq (pe_ix ix_tup (pv 2) pe_int (fun _ _ => rfl)) pe_str (nomark _))
        (pss_one (ps_expr (pe_bm PySem.F.plainAttrs_list PySem.F.slot_list_append PySem.F.type_list_append mt_append (pv 1) (pa_cons (pe_tup (pa_cons (pe_ix ix_tup (pv 2) pe_int (fun _ _ => rfl)) (pa_cons (pe_ix ix_tup (pv 2) pe_int (fun _ _ => rfl)) (pa_cons (pe_ix ix_tup (pv 2) pe_int (fun _ _ => rfl)) (pa_cons (pe_cl F__law_frozen (hr.mono (by omega)) (pa_cons (pe_ix ix_tup (pv 2) pe_int (fun _ _ => rfl)) pa_nil)) pa_nil))))) pa_nil))))
        (pss_one (ps_if (pt_cmpR op_eq (pe_ix ix_tup (pv 2) pe_int (fun _ _ => rfl)) pe_str (nomark _))
          (pss_one (ps_expr (pe_bm PySem.F.plainAttrs_list PySem.F.slot_list_append PySem.F.type_list_append mt_append (pv 1) (pa_cons (pe_tup (pa_cons (pe_ix ix_tup (pv 2) pe_int (fun _ _ => rfl)) (pa_cons (pe_ix ix_tup (pv 2) pe_int (fun _ _ => rfl)) (pa_cons (pe_callTy call_tuple_of (by rfl) T.f_tuple (by decide +kernel) (pa_cons (pe_lcs (pe_lc (own := [("_law_block_here", 3)]) (g := gName 3) (tt := tYes) rfl sc__law_frozen.nd (pi_seq (pe_ix ix_tup (pv 2) pe_int (fun _ _ => rfl))) (blkOk_by (own := [("_law_block_here", 3)]) (N := N__law_frozen) (sc := defScope s__law_frozen) (by decide +kernel)) (fun _ _ _ _ _ => (pg_name (i := 3) sc__law_frozen.nd rfl (by first | exact Or.inl rfl | exact Or.inr rfl))) (fun _ _ _ _ _ => pts_nil) (fun _ _ _ _ _ => (pe_cl F__law_frozen (hr.mono (by omega)) (pa_cons (pv 3) pa_nil))))) pa_nil)) pa_nil)))) pa_nil))))
          (pss_one (ps_if (pt_cmpR op_eq (pe_ix ix_tup (pv 2) pe_int (fun _ _ => rfl)) pe_str (nomark _))
            (pss_one (ps_expr (pe_bm PySem.F.plainAttrs_list PySem.F.slot_list_append PySem.F.type_list_append mt_append (pv 1) (pa_cons (pe_tup (pa_cons (pe_ix ix_tup (pv 2) pe_int (fun _ _ => rfl)) (pa_cons (pe_ix ix_tup (pv 2) pe_int (fun _ _ => rfl)) (pa_cons (pe_ix ix_tup (pv 2) pe_int (fun _ _ => rfl)) (pa_cons (pe_callTy call_tuple_of (by rfl) T.f_tuple (by decide +kernel) (pa_cons (pe_lcs (pe_lc (own := [("_law_case", 4)]) (g := gName 4) (tt := tYes) rfl sc__law_frozen.nd (pi_seq (pe_ix ix_tup (pv 2) pe_int (fun _ _ => rfl))) (blkOk_by (own := [("_law_case", 4)]) (N := N__law_frozen) (sc := defScope s__law_frozen) (by decide +kernel)) (fun _ _ _ _ _ => (pg_name (i := 4) sc__law_frozen.nd rfl (by first | exact Or.inl rfl | exact Or.inr rfl))) (fun _ _ _ _ _ => pts_nil) (fun _ _ _ _ _ => (pe_tup (pa_cons (pe_ix (ix_tupK (K' := K) rfl) (pv 4) pe_int (fun _ _ => rfl)) (pa_cons (pe_cl F__law_frozen (hr.mono (by omega)) (pa_cons (pe_ix (ix_tupK (K' := K) rfl) (pv 4) pe_int (fun _ _ => rfl)) pa_nil)) pa_nil)))))) pa_nil)) pa_nil))))) pa_nil))))
            (pss_one (ps_expr (pe_bm PySem.F.plainAttrs_list PySem.F.slot_list_append PySem.F.type_list_append mt_append (pv 1) (pa_cons (pv 2) pa_nil)))))))))))
    (pss_one (ps_ret (pe_callTy call_tuple_of (by rfl) T.f_tuple (by decide +kernel) (pa_cons (pv 1) pa_nil)))))), ?_⟩
  obtain ⟨a, vs, rfl, ha, hp, hlen⟩ := hl
  have l0 : l = [] := by
    cases l with
    | nil => rfl
    | cons x r => exact nomatch (show Empty from x)
  subst l0
  have v0 : vs = [] := List.length_eq_zero_iff.mp (paired_len hp)
  subst v0
  refine sq ⟨Nat.zero_le _, fun ln hln => ?_⟩
  have e1 := (Eff.refl sFH (M := [])).loc hln (o := .lst [])
  refine sq ⟨_, rfl, a, rfl, for_seq (z := false) (xs := []) (fun i σ H' => ∃ v2 v3 v4, σ = [some (.ref a), some (.ref ln), v2, v3, v4] ∧ H' = upd H ln (.lst [])) ⟨_, _, _, rfl, rfl⟩ (fun i σ H1 _ ⟨_, _, _, _, e⟩ => by rw [e]; exact e1.sub _ _ ha) (fun i y σ H1 hy => by simp at hy) (fun σ H1 ⟨_, _, _, es, e⟩ => by
    subst es
    subst e
    refine ⟨_, rfl, ln, _, rfl, .inl ⟨SqL.of upd_same, fun p np => ?_⟩⟩
    have e2 := e1.put np (o := .tup [])
    exact q _ _ _ e2 ⟨p, [], rfl, upd_same, .nil, Nat.zero_le _⟩)⟩
theorem ok_law_frozen {d k : Nat} (F : Fun K "_law_frozen" "_law_frozen" s__law_frozen f fd) (T : Tx w K mg) (F__law_frozen : Fc P w K mg base k "_law_frozen" (spFrozen d)) : FnR P w K mg base CX0 (k + 1) f (spFrozen (d + 1)) := by
  refine raw_of F sc__law_frozen b__law_frozen (fun vs H Q E h => by obtain ⟨_, _, _, rfl, _⟩ := h; rfl) (fun cdv A outer s H vs Q E hr h => ?_)
  obtain ⟨F, v, l, rfl, sFH, hl, q⟩ := h
  refine ⟨_, (pss_cons (ps_set (i := 1) sc__law_frozen.nd rfl (by first | exact Or.inl rfl | exact Or.inr rfl) (pe_lst pa_nil))
    (pss_cons (ps_for PassesOwn.never rfl (pi_seq (pv 0)) (pg_name (i := 2) sc__law_frozen.nd rfl (by first | exact Or.inl rfl | exact Or.inr rfl))
      (pss_one (ps_if (pt_cmpR op_eq (pe_ix ix_tup (pv 2) pe_int (fun _ _ => rfl)) pe_str (nomark _))
        (pss_one (ps_expr (pe_bm PySem.F.plainAttrs_list PySem.F.slot_list_append PySem.F.type_list_append mt_append (pv 1) (pa_cons (pe_tup (pa_cons (pe_ix ix_tup (pv 2) pe_int (fun _ _ => rfl)) (pa_cons (pe_ix ix_tup (pv 2) pe_int (fun _ _ => rfl)) (pa_cons (pe_ix ix_tup (pv 2) pe_int (fun _ _ => rfl)) (pa_cons (pe_cl F__law_frozen (hr.mono (by omega)) (pa_cons (pe_ix ix_tup (pv 2) pe_int (fun _ _ => rfl)) pa_nil)) pa_nil))))) pa_nil))))
        (pss_one (ps_if (pt_cmpR op_eq (pe_ix ix_tup (pv 2) pe_int (fun _ _ => rfl)) pe_str (nomark _))
          (pss_one (ps_expr (pe_bm PySem.F.plainAttrs_list PySem.F.slot_list_append PySem.F.type_list_append mt_append (pv 1) (pa_cons (pe_tup (pa_cons (pe_ix ix_tup (pv 2) pe_int (fun _ _ => rfl)) (pa_cons (pe_ix ix_tup (pv 2) pe_int (fun _ _ => rfl)) (pa_cons (pe_callTy call_tuple_of (by rfl) T.f_tuple (by decide +kernel) (pa_cons (pe_lcs (pe_lc (own := [("_law_block_here", 3)]) (g := gName 3) (tt := tYes) rfl sc__law_frozen.nd (pi_seq (pe_ix ix_tup (pv 2) pe_int (fun _ _ => rfl))) (blkOk_by (own := [("_law_block_here", 3)]) (N := N__law_frozen) (sc := defScope s__law_frozen) (by decide +kernel)) (fun _ _ _ _ _ => (pg_name (i := 3) sc__law_frozen.nd rfl (by first | exact Or.inl rfl | exact Or.inr rfl))) (fun _ _ _ _ _ => pts_nil) (fun _ _ _ _ _ => (pe_cl F__law_frozen (hr.mono (by omega)) (pa_cons (pv 3) pa_nil))))) pa_nil)) pa_nil)))) pa_nil))))
          (pss_one (ps_if (pt_cmpR op_eq (pe_ix ix_tup (pv 2) pe_int (fun _ _ => rfl)) pe_str (nomark _))
            (pss_one (ps_expr (pe_bm PySem.F.plainAttrs_list PySem.F.slot_list_append PySem.F.type_list_append mt_append (pv 1) (pa_cons (pe_tup (pa_cons (pe_ix ix_tup (pv 2) pe_int (fun _ _ => rfl)) (pa_cons (pe_ix ix_tup (pv 2) pe_int (fun _ _ => rfl)) (pa_cons (pe_ix ix_tup (pv 2) pe_int (fun _ _ => rfl)) (pa_cons (pe_callTy call_tuple_of (by rfl) T.f_tuple (by decide +kernel) (pa_cons (pe_lcs (pe_lc (own := [("_law_case", 4)]) (g := gName 4) (tt := tYes) rfl sc__law_frozen.nd (pi_seq (pe_ix ix_tup (pv 2) pe_int (fun _ _ => rfl))) (blkOk_by (own := [("_law_case", 4)]) (N := N__law_frozen) (sc := defScope s__law_frozen) (by decide +kernel)) (fun _ _ _ _ _ => (pg_name (i := 4) sc__law_frozen.nd rfl (by first | exact Or.inl rfl | exact Or.inr rfl))) (fun _ _ _ _ _ => pts_nil) (fun _ _ _ _ _ => (pe_tup (pa_cons (pe_ix (ix_tupK (K' := K) rfl) (pv 4) pe_int (fun _ _ => rfl)) (pa_cons (pe_cl F__law_frozen (hr.mono (by omega)) (pa_cons (pe_ix (ix_tupK (K' := K) rfl) (pv 4) pe_int (fun _ _ => rfl)) pa_nil)) pa_nil)))))) pa_nil)) pa_nil))))) pa_nil))))
            (pss_one (ps_expr (pe_bm PySem.F.plainAttrs_list PySem.F.slot_list_append PySem.F.type_list_append mt_append (pv 1) (pa_cons (pv 2) pa_nil)))))))))))
    (pss_one (ps_ret (pe_callTy call_tuple_of (by rfl) T.f_tuple (by decide +kernel) (pa_cons (pv 1) pa_nil)))))), ?_⟩
  obtain ⟨a, vs, rfl, ha, hp, hlen⟩ := hl
  have hlen2 := paired_len hp
  refine sq ⟨Nat.zero_le _, fun ln hln => ?_⟩
  refine sq ⟨_, rfl, a, rfl, for_seq (z := false) (xs := vs) (fun i σ H' => ∃ v2 v3 v4 F' ys, σ = [some (.ref a), some (.ref ln), v2, v3, v4] ∧ Eff [] F H F' H' ∧ F' ln = none ∧ H' ln = some (.lst ys) ∧ Paired (IsIt true F' (d + 1)) ys (l.take i)) ?_ ?_ ?_ ?_⟩
  · exact ⟨_, _, _, F, [], rfl, (Eff.refl sFH).loc hln, sFH.free hln, upd_same, .nil⟩
  · rintro i σ H1 _ ⟨_, _, _, F1, _, _, e1, _⟩
    exact e1.sub _ _ (e1.same _ _ ha)
  · rintro i y σ H1 hy ⟨v2, v3, v4, F1, ys, rfl, e1, fl1, hl1, hps⟩
    obtain ⟨x, hx, hit⟩ := paired_at hp hy
    obtain ⟨r, hlr, htk⟩ := cut_at hx
    rw [htk]
    have yl : ys.length < sizeLine := by
      have z1 := paired_len hps
      have z2 := congrArg List.length hlr
      rw [List.length_append, List.length_cons] at z2
      exact Nat.lt_of_le_of_lt (show ys.length ≤ 1000 by omega) (by decide)
    generalize l.take i = pre at *
    have hit1 := isIt_mono e1.same (d + 1) _ _ hit
    obtain ⟨b, rfl, hx1⟩ := hit1
    -- a new tuple, put behind
    have fin : ∀ (ho : HO) (F2 H2 : Hp) (t : Addr), Eff [] F1 H1 F2 H2 → H2 t = none → (IsIt true (upd F2 t ho) (d + 1) (.ref t) x) →
        (upd H2 t ho) ln = some (.lst ys) ∧ ∀ v3 v4 : Option V, ∃ u2 u3 u4 F' ys', [some (V.ref a), some (V.ref ln), some (V.ref b), v3, v4] = [some (.ref a), some (.ref ln), u2, u3, u4] ∧ Eff [] F H F' (upd (upd H2 t ho) ln (.lst (ys ++ [V.ref t]))) ∧ F' ln = none ∧ (upd (upd H2 t ho) ln (.lst (ys ++ [V.ref t]))) ln = some (.lst ys') ∧ Paired (IsIt true F' (d + 1)) ys' (pre ++ [x]) := by
      intro ho F2 H2 t e2 ht hi
      have hl2 := e2.all _ _ hl1
      have ne := ne_of_none hl2 ht
      have fl2 : F2 ln = none := e2.fresh _ fl1 (by rw [hl1]; intro z; cases z)
      have e3 := (e1.pure e2).put ht (o := ho)
      have fl3 : (upd F2 t ho) ln = none := (upd_ne ne).trans fl2
      refine ⟨(upd_ne ne).trans hl2, fun v3 v4 => ⟨_, v3, v4, _, _, rfl, e3.wr fl3 (.inr hln), fl3, upd_same, ?_⟩⟩
      exact Paired.snoc (paired_mono (fun _ _ h => isIt_mono (e2.same.trans (same_new (e2.sub.free ht) _)) (d + 1) _ _ h) hps) hi
    match x, hx1, fin with
    | .pl p, hx1, fin =>
      have hx1 : F1 b = some (.tup p.vs) := hx1
      have hx2 := hx1
      rw [p.vs_eq] at hx1
      have hT : SqT K H1 b _ := SqT.of (e1.sub _ _ hx1)
      refine r_kN rfl hT (pk_rep p) (r_kN rfl hT (pk_eit p) (r_kN rfl hT (pk_swi p) ?_))
      refine ⟨_, rfl, .inl ⟨rfl, _, SqL.of hl1⟩, _, rfl, ln, _, _, rfl, rfl, hl1, yl, ?_⟩
      exact ⟨_, _, _, F1, _, rfl, e1.wr fl1 (.inr hln), fl1, upd_same, Paired.snoc hps ⟨b, rfl, hx2⟩⟩
    | .rep n u bl, ⟨w', hx1, hb⟩, fin =>
      have hT : SqT K H1 b _ := SqT.of (e1.sub _ _ hx1)
      refine r_kY rfl hT ?_
      refine ⟨_, rfl, .inl ⟨rfl, _, SqL.of hl1⟩, _, rfl, b, _, _, _, rfl, rfl, hT, at0, _, rfl, b, _, _, _, rfl, rfl, hT, at1, _, rfl, b, _, _, _, rfl, rfl, hT, at2, _, rfl, b, _, _, _, rfl, rfl, hT, at3, ?_⟩
      refine ⟨F1, _, bl, rfl, e1.sub, hb, fun r2 F2 H2 e2 hr2 => ⟨(by show 4 ≤ sizeLine; decide), fun t ht => ?_⟩⟩
      obtain ⟨g1, g2⟩ := fin (.tup [.str "repeat", .str n, u.v, r2]) _ _ t e2 ht ⟨t, rfl, r2, upd_same, isIts_mono (same_new (e2.sub.free ht) _) hr2⟩
      exact ⟨ln, _, _, rfl, rfl, g1, yl, g2 _ _⟩
    | .eit n bs, ⟨w', hx1, hb⟩, fin =>
      have hT : SqT K H1 b _ := SqT.of (e1.sub _ _ hx1)
      obtain ⟨wb, ws, rfl, hs, hpw, hlw, hzw⟩ := isSeq_sq (K := K) e1.sub hb
      refine r_kN rfl hT es1 (r_kY rfl hT ?_)
      refine ⟨_, rfl, .inl ⟨rfl, _, SqL.of hl1⟩, _, rfl, b, _, _, _, rfl, rfl, hT, at0, _, rfl, b, _, _, _, rfl, rfl, hT, at1, _, rfl, b, _, _, _, rfl, rfl, hT, at2, wb, rfl, ?_⟩
      refine lcp hs (by omega) e1.sub (fun i y F' => ∃ b, bs[i]? = some b ∧ IsIts true F' d y b) (fun i y F' F'' s ⟨x, h1, h2⟩ => ⟨x, h1, isIts_mono s h2⟩) (fun i v F' H' hv ef k hk => ?_) (fun D ys2 F2 H2 nD ef hD hl2 hR => ?_)
      · obtain ⟨b, hx, hi⟩ := paired_at hpw hv
        exact ⟨rfl, _, rfl, F', v, b, rfl, ef.sub, isIts_mono ef.same hi, fun r F'' H'' e h => hk r F'' H'' e ⟨b, hx, h⟩⟩
      · refine ⟨D, ys2, rfl, .inl ⟨SqL.of (ef.sub _ _ hD), fun p np => ⟨(by show 3 ≤ sizeLine; decide), fun t ht => ?_⟩⟩⟩
        have ep := ef.put np (o := .tup ys2)
        obtain ⟨g1, g2⟩ := fin (.tup [.str "either", .str n, .ref p]) _ _ t ep ht ⟨t, rfl, .ref p, upd_same, p, ys2, rfl, same_new (ep.sub.free ht) _ _ _ upd_same, paired_of (by omega) (fun i y x h1 h2 => by
          obtain ⟨x', h3, h4⟩ := hR i y h1
          rw [h2] at h3
          cases h3
          exact isIts_mono ((same_new (ef.sub.free np) _).trans (same_new (ep.sub.free ht) _)) h4), hzw⟩
        exact ⟨ln, _, _, rfl, rfl, g1, yl, g2 _ _⟩
    | .swi n t0 cs, ⟨w', hx1, hb⟩, fin =>
      have hT : SqT K H1 b _ := SqT.of (e1.sub _ _ hx1)
      obtain ⟨wb, ws, rfl, hs, hpw, hlw, hzw⟩ := isSeq_sq (K := K) e1.sub hb
      refine r_kN rfl hT es2 (r_kN rfl hT es3 (r_kY rfl hT ?_))
      refine ⟨_, rfl, .inl ⟨rfl, _, SqL.of hl1⟩, _, rfl, b, _, _, _, rfl, rfl, hT, at0, _, rfl, b, _, _, _, rfl, rfl, hT, at1, _, rfl, b, _, _, _, rfl, rfl, hT, at2, _, rfl, b, _, _, _, rfl, rfl, hT, at3, wb, rfl, ?_⟩
      refine lcp hs (by omega) e1.sub (fun i y F' => ∃ c : Int × List (Itm d), cs[i]? = some c ∧ ∃ e w', y = .ref e ∧ F' e = some (.tup [.int c.1, w']) ∧ IsIts true F' d w' c.2) (fun i y F' F'' s ⟨c, h1, e, w', h2, h3, h4⟩ => ⟨c, h1, e, w', h2, s _ _ h3, isIts_mono s h4⟩) (fun i v F' H' hv ef k hk => ?_) (fun D ys2 F2 H2 nD ef hD hl2 hR => ?_)
      · obtain ⟨c, hc, e, w2, rfl, h2, h3⟩ := paired_at hpw hv
        have hTe : SqT K H' e _ := eff_sqT ef h2
        refine ⟨rfl, _, rfl, e, _, _, _, rfl, rfl, hTe, at0, _, rfl, e, _, _, _, rfl, rfl, hTe, at1, F', w2, c.2, rfl, ef.sub, isIts_mono ef.same h3, fun r F'' H'' e' h => ⟨(by show 2 ≤ sizeLine; decide), fun p np => ?_⟩⟩
        have e1 := e'.put np (o := .tup [.int c.1, r])
        exact hk _ _ _ e1 ⟨c, hc, p, r, rfl, upd_same, isIts_mono (same_new (none_of_same e'.sub np) _) h⟩
      · refine ⟨D, ys2, rfl, .inl ⟨SqL.of (ef.sub _ _ hD), fun p np => ⟨(by show 4 ≤ sizeLine; decide), fun t ht => ?_⟩⟩⟩
        have ep := ef.put np (o := .tup ys2)
        obtain ⟨g1, g2⟩ := fin (.tup [.str "switch", .str n, .str t0, .ref p]) _ _ t ep ht ⟨t, rfl, .ref p, upd_same, p, ys2, rfl, same_new (ep.sub.free ht) _ _ _ upd_same, paired_of (by omega) (fun i y x h1 h2 => by
          obtain ⟨x', h3, e, w', h4, h5, h6⟩ := hR i y h1
          rw [h2] at h3
          cases h3
          have s2 := (same_new (ef.sub.free np) (.tup ys2)).trans (same_new (ep.sub.free ht) (.tup [.str "switch", .str n, .str t0, .ref p]))
          exact ⟨e, w', h4, s2 _ _ h5, isIts_mono s2 h6⟩), hzw⟩
        exact ⟨ln, _, _, rfl, rfl, g1, yl, g2 _ _⟩
  · rintro σ H1 ⟨v2, v3, v4, F1, ys, rfl, e1, fl1, hl1, hps⟩
    rw [hlen2, List.take_length] at hps
    refine ⟨_, rfl, ln, _, rfl, .inl ⟨SqL.of hl1, fun p np => ?_⟩⟩
    have e2 := e1.put np (o := .tup ys)
    exact q _ _ _ e2 ⟨p, ys, rfl, upd_same, paired_mono (fun _ _ h => isIt_mono (same_new (e1.sub.free np) _) (d + 1) _ _ h) hps, hlen⟩
theorem frozen_all (F : Fun K "_law_frozen" "_law_frozen" s__law_frozen f fd) (hm : mg "_law_frozen" = some (.ref f)) (T : Tx w K mg) : ∀ d, Fc P w K mg base (d + 1) "_law_frozen" (spFrozen d)
  | 0 => fc_of hm F.kp (ok_law_frozen0 F hm T)
  | d + 1 => fc_of hm F.kp (ok_law_frozen F T (frozen_all F hm T d))
end
end K6
set_option Elab.async false
set_option linter.all false
set_option maxRecDepth 100000
set_option maxHeartbeats 4000000
namespace K6
open PySem PySem.Spec PyProof.Rows L2
abbrev Sml (v : V) : Prop := (∃ n : Int, v = .int n ∧ 0 ≤ n ∧ n ≤ 65535) ∨ ∃ x, v = .str x
abbrev rStrIS : List V → Hp → VK → Prop := fun xs H Q => (∃ i, xs = [.int i] ∧ i.natAbs.log2 < 1920 ∧ Q (.str (toString i)) H) ∨ ∃ a, xs = [.str a] ∧ Q (.str a) H
theorem r_str {v : V} {H : Hp} {Q : VK} (hv : Sml v) (q : Q (.str (txt v)) H) : rStrIS [v] H Q := by
  rcases hv with ⟨n, rfl, h0, h1⟩ | ⟨x, rfl⟩
  · exact .inl ⟨n, rfl, log_small h0 h1, q⟩
  · exact .inr ⟨x, rfl, q⟩
theorem r_strIx {K : PySem.W.Frag} {σ : L2.St} {H : Hp} {Q : VK} {b : Addr} {xs : List V} {v : V} {i : Nat} {j : Int} (hσ : σ[i]? = some (some (.ref b))) (hT : SqT K H b xs) (hj : atI xs j = some v) (hv : Sml v) (q : Q (.str (txt v)) H) :
    tCB rStrIS (tCons (tOp (rIxT K) (tVar i) (tC (.int j))) tNil) σ H Q := ⟨_, hσ, b, xs, j, _, rfl, rfl, hT, hj, r_str hv q⟩
theorem r_strV {σ : L2.St} {H : Hp} {Q : VK} {v : V} {i : Nat} (hσ : σ[i]? = some (some v)) (hv : Sml v) (q : Q (.str (txt v)) H) : tCB rStrIS (tCons (tVar i) tNil) σ H Q := ⟨_, hσ, r_str hv q⟩
theorem sml_u {vis : Env1} {most : Int} {u : Use} (hm : most ≤ 65535) (h : UseOk vis most u) : Sml u.v := by
  cases u with
  | lit n => exact .inl ⟨n, rfl, h.1, by have := h.2; omega⟩
  | nam x => exact .inr ⟨x, rfl⟩
theorem sp_case' (a : Str) : ("case " : Str) ++ a = jn ["case", a] := by
  rw [jn2, sp_case]
theorem js3' (a b c : Str) : a ++ " " ++ b ++ " " ++ c = jn [a, b, c] := by rw [jn3, Str.append_assoc, Str.append_assoc, Str.append_assoc, Str.append_assoc, Str.append_assoc]
section
variable {P : Program} {w : World} {K : PySem.W.Frag} {mg : Str → Option Value} {base : Heap} {f : Addr} {fd : FuncData}
abbrev s__law_lines : Stmt := top 58
abbrev N__law_lines : List Str := ["_law_items_here", "_law_lines_here", "_law_item_here", "_law_words", "_law_block_here", "_law_case", "_law_part"]
theorem sc__law_lines : FnScope N__law_lines ["_law_items_here"] (defScope s__law_lines) := ⟨rfl, rfl, rfl, by decide +kernel, rfl, by decide +kernel, by decide +kernel⟩
theorem b__law_lines (kV doc pm : Value) (an : Option Addr) (cdv ct : Value) (us : List Value) (hl : us.length = (["_law_items_here"] : List Str).length) : bindArgs (PySem.W.fnOf "_law_lines" "_law_lines" (defArgs s__law_lines) (defBody s__law_lines) (defScope s__law_lines) .none kV doc pm an cdv ct) ⟨us, []⟩ = pure ((["_law_items_here"] : List Str).zip us) := match us, hl with | [_], _ => rfl
theorem ok_law_lines0 (F : Fun K "_law_lines" "_law_lines" s__law_lines f fd) (hm : mg "_law_lines" = some (.ref f)) (T : Tx w K mg) : FnR P w K mg base CX0 1 f (spFmt 0) := by
  refine raw_of F sc__law_lines b__law_lines (fun vs H Q E h => by obtain ⟨_, _, _, _, rfl, _⟩ := h; rfl) (fun cdv A outer s H vs Q E hr h => ?_)
  obtain ⟨z, F, v, l, rfl, sFH, hl, ok, h30, q⟩ := h
  have F__law_lines : Fc P w K mg base 0 "_law_lines" (fun _ _ _ _ => False) := fc_of hm ‹Fun K _ _ _ f fd›.kp (fnR_no fun _ _ _ _ h => h)
  refine ⟨_, (pss_cons (ps_set (i := 1) sc__law_lines.nd rfl (by first | exact Or.inl rfl | exact Or.inr rfl) (pe_lst pa_nil))
    (pss_cons (ps_for PassesOwn.never rfl (pi_seq (pv 0)) (pg_name (i := 2) sc__law_lines.nd rfl (by first | exact Or.inl rfl | exact Or.inr rfl))
      (pss_cons (ps_set (i := 3) sc__law_lines.nd rfl (by first | exact Or.inl rfl | exact Or.inr rfl) (pe_op op_add_str (pe_op op_add_str (pe_ix ix_tup (pv 2) pe_int (fun _ _ => rfl)) pe_str) (pe_ix ix_tup (pv 2) pe_int (fun _ _ => rfl))))
      (pss_one (ps_if (pt_cmpR op_eq (pe_ix ix_tup (pv 2) pe_int (fun _ _ => rfl)) pe_str (nomark _))
        (pss_one (ps_set (i := 1) sc__law_lines.nd rfl (by first | exact Or.inl rfl | exact Or.inr rfl) (pe_op op_cat (pe_op op_cat (pe_op op_cat (pv 1) (pe_lst (pa_cons (pe_op op_add_str (pe_op op_add_str (pv 3) pe_str) (pe_callTy call_strIS (by rfl) T.f_str (by decide +kernel) (pa_cons (pe_ix ix_tup (pv 2) pe_int (fun _ _ => rfl)) pa_nil))) pa_nil))) (pe_cl F__law_lines (hr.mono (by omega)) (pa_cons (pe_ix ix_tup (pv 2) pe_int (fun _ _ => rfl)) pa_nil))) (pe_lst (pa_cons pe_str pa_nil)))))
        (pss_one (ps_if (pt_cmpR op_eq (pe_ix ix_tup (pv 2) pe_int (fun _ _ => rfl)) pe_str (nomark _))
          (pss_cons (ps_expr (pe_bm PySem.F.plainAttrs_list PySem.F.slot_list_append PySem.F.type_list_append mt_append (pv 1) (pa_cons (pv 3) pa_nil)))
          (pss_cons (ps_for PassesOwn.never rfl (pi_seq (pe_ix ix_tup (pv 2) pe_int (fun _ _ => rfl))) (pg_name (i := 4) sc__law_lines.nd rfl (by first | exact Or.inl rfl | exact Or.inr rfl))
            (pss_one (ps_set (i := 1) sc__law_lines.nd rfl (by first | exact Or.inl rfl | exact Or.inr rfl) (pe_op op_cat (pe_op op_cat (pv 1) (pe_lst (pa_cons pe_str pa_nil))) (pe_cl F__law_lines (hr.mono (by omega)) (pa_cons (pv 4) pa_nil))))))
          (pss_one (ps_expr (pe_bm PySem.F.plainAttrs_list PySem.F.slot_list_append PySem.F.type_list_append mt_append (pv 1) (pa_cons pe_str pa_nil))))))
          (pss_one (ps_if (pt_cmpR op_eq (pe_ix ix_tup (pv 2) pe_int (fun _ _ => rfl)) pe_str (nomark _))
            (pss_cons (ps_expr (pe_bm PySem.F.plainAttrs_list PySem.F.slot_list_append PySem.F.type_list_append mt_append (pv 1) (pa_cons (pe_op op_add_str (pe_op op_add_str (pv 3) pe_str) (pe_ix ix_tup (pv 2) pe_int (fun _ _ => rfl))) pa_nil)))
            (pss_cons (ps_for PassesOwn.never rfl (pi_seq (pe_ix ix_tup (pv 2) pe_int (fun _ _ => rfl))) (pg_name (i := 5) sc__law_lines.nd rfl (by first | exact Or.inl rfl | exact Or.inr rfl))
              (pss_one (ps_set (i := 1) sc__law_lines.nd rfl (by first | exact Or.inl rfl | exact Or.inr rfl) (pe_op op_cat (pe_op op_cat (pv 1) (pe_lst (pa_cons (pe_op op_add_str pe_str (pe_callTy call_strIS (by rfl) T.f_str (by decide +kernel) (pa_cons (pe_ix ix_tup (pv 5) pe_int (fun _ _ => rfl)) pa_nil))) pa_nil))) (pe_cl F__law_lines (hr.mono (by omega)) (pa_cons (pe_ix ix_tup (pv 5) pe_int (fun _ _ => rfl)) pa_nil))))))
            (pss_one (ps_expr (pe_bm PySem.F.plainAttrs_list PySem.F.slot_list_append PySem.F.type_list_append mt_append (pv 1) (pa_cons pe_str pa_nil))))))
            (pss_cons (ps_for PassesOwn.never rfl (pi_seq (pe_slice sl_tup (pv 2) (po_some pe_int) po_none)) (pg_name (i := 6) sc__law_lines.nd rfl (by first | exact Or.inl rfl | exact Or.inr rfl))
              (pss_one (ps_set (i := 3) sc__law_lines.nd rfl (by first | exact Or.inl rfl | exact Or.inr rfl) (pe_op op_add_str (pe_op op_add_str (pv 3) pe_str) (pe_callTy call_strIS (by rfl) T.f_str (by decide +kernel) (pa_cons (pv 6) pa_nil))))))
            (pss_one (ps_expr (pe_bm PySem.F.plainAttrs_list PySem.F.slot_list_append PySem.F.type_list_append mt_append (pv 1) (pa_cons (pv 3) pa_nil)))))))))))))
    (pss_one (ps_ret (pv 1))))), ?_⟩
  obtain ⟨a, vs, rfl, ha, hp, hlen⟩ := hl
  have l0 : l = [] := by
    cases l with
    | nil => rfl
    | cons x r => exact nomatch (show Empty from x)
  subst l0
  have v0 : vs = [] := List.length_eq_zero_iff.mp (paired_len hp)
  subst v0
  refine sq ⟨Nat.zero_le _, fun ln hln => ?_⟩
  have e1 := (Eff.refl sFH (M := [])).loc hln (o := .lst [])
  refine sq ⟨_, rfl, a, rfl, for_seq (z := z) (xs := []) (fun i σ H' => ∃ v2 v3 v4 v5 v6, σ = [some (.ref a), some (.ref ln), v2, v3, v4, v5, v6] ∧ H' = upd H ln (.lst [])) ⟨_, _, _, _, _, rfl, rfl⟩ (fun i σ H1 _ ⟨_, _, _, _, _, _, e⟩ => by rw [e]; exact e1.sub _ _ ha) (fun i y σ H1 hy => by simp at hy) (fun σ H1 ⟨_, _, _, _, _, es, e⟩ => by
    subst es
    subst e
    exact ⟨_, rfl, q ln _ _ (e1.frz hln upd_same) upd_same⟩)⟩
theorem ok_law_lines {d k : Nat} (F : Fun K "_law_lines" "_law_lines" s__law_lines f fd) (T : Tx w K mg) (F__law_lines : Fc P w K mg base k "_law_lines" (spFmt d)) : FnR P w K mg base CX0 (k + 1) f (spFmt (d + 1)) := by
  refine raw_of F sc__law_lines b__law_lines (fun vs H Q E h => by obtain ⟨_, _, _, _, rfl, _⟩ := h; rfl) (fun cdv A outer s H vs Q E hr h => ?_)
  obtain ⟨z, F, v, l, rfl, sFH, hl, ok, h30, q⟩ := h
  refine ⟨_, (pss_cons (ps_set (i := 1) sc__law_lines.nd rfl (by first | exact Or.inl rfl | exact Or.inr rfl) (pe_lst pa_nil))
    (pss_cons (ps_for PassesOwn.never rfl (pi_seq (pv 0)) (pg_name (i := 2) sc__law_lines.nd rfl (by first | exact Or.inl rfl | exact Or.inr rfl))
      (pss_cons (ps_set (i := 3) sc__law_lines.nd rfl (by first | exact Or.inl rfl | exact Or.inr rfl) (pe_op op_add_str (pe_op op_add_str (pe_ix ix_tup (pv 2) pe_int (fun _ _ => rfl)) pe_str) (pe_ix ix_tup (pv 2) pe_int (fun _ _ => rfl))))
      (pss_one (ps_if (pt_cmpR op_eq (pe_ix ix_tup (pv 2) pe_int (fun _ _ => rfl)) pe_str (nomark _))
        (pss_one (ps_set (i := 1) sc__law_lines.nd rfl (by first | exact Or.inl rfl | exact Or.inr rfl) (pe_op op_cat (pe_op op_cat (pe_op op_cat (pv 1) (pe_lst (pa_cons (pe_op op_add_str (pe_op op_add_str (pv 3) pe_str) (pe_callTy call_strIS (by rfl) T.f_str (by decide +kernel) (pa_cons (pe_ix ix_tup (pv 2) pe_int (fun _ _ => rfl)) pa_nil))) pa_nil))) (pe_cl F__law_lines (hr.mono (by omega)) (pa_cons (pe_ix ix_tup (pv 2) pe_int (fun _ _ => rfl)) pa_nil))) (pe_lst (pa_cons pe_str pa_nil)))))
        (pss_one (ps_if (pt_cmpR op_eq (pe_ix ix_tup (pv 2) pe_int (fun _ _ => rfl)) pe_str (nomark _))
          (pss_cons (ps_expr (pe_bm PySem.F.plainAttrs_list PySem.F.slot_list_append PySem.F.type_list_append mt_append (pv 1) (pa_cons (pv 3) pa_nil)))
          (pss_cons (ps_for PassesOwn.never rfl (pi_seq (pe_ix ix_tup (pv 2) pe_int (fun _ _ => rfl))) (pg_name (i := 4) sc__law_lines.nd rfl (by first | exact Or.inl rfl | exact Or.inr rfl))
            (pss_one (ps_set (i := 1) sc__law_lines.nd rfl (by first | exact Or.inl rfl | exact Or.inr rfl) (pe_op op_cat (pe_op op_cat (pv 1) (pe_lst (pa_cons pe_str pa_nil))) (pe_cl F__law_lines (hr.mono (by omega)) (pa_cons (pv 4) pa_nil))))))
          (pss_one (ps_expr (pe_bm PySem.F.plainAttrs_list PySem.F.slot_list_append PySem.F.type_list_append mt_append (pv 1) (pa_cons pe_str pa_nil))))))
          (pss_one (ps_if (pt_cmpR op_eq (pe_ix ix_tup (pv 2) pe_int (fun _ _ => rfl)) pe_str (nomark _))
            (pss_cons (ps_expr (pe_bm PySem.F.plainAttrs_list PySem.F.slot_list_append PySem.F.type_list_append mt_append (pv 1) (pa_cons (pe_op op_add_str (pe_op op_add_str (pv 3) pe_str) (pe_ix ix_tup (pv 2) pe_int (fun _ _ => rfl))) pa_nil)))
            (pss_cons (ps_for PassesOwn.never rfl (pi_seq (pe_ix ix_tup (pv 2) pe_int (fun _ _ => rfl))) (pg_name (i := 5) sc__law_lines.nd rfl (by first | exact Or.inl rfl | exact Or.inr rfl))
              (pss_one (ps_set (i := 1) sc__law_lines.nd rfl (by first | exact Or.inl rfl | exact Or.inr rfl) (pe_op op_cat (pe_op op_cat (pv 1) (pe_lst (pa_cons (pe_op op_add_str pe_str (pe_callTy call_strIS (by rfl) T.f_str (by decide +kernel) (pa_cons (pe_ix ix_tup (pv 5) pe_int (fun _ _ => rfl)) pa_nil))) pa_nil))) (pe_cl F__law_lines (hr.mono (by omega)) (pa_cons (pe_ix ix_tup (pv 5) pe_int (fun _ _ => rfl)) pa_nil))))))
            (pss_one (ps_expr (pe_bm PySem.F.plainAttrs_list PySem.F.slot_list_append PySem.F.type_list_append mt_append (pv 1) (pa_cons pe_str pa_nil))))))
            (pss_cons (ps_for PassesOwn.never rfl (pi_seq (pe_slice sl_tup (pv 2) (po_some pe_int) po_none)) (pg_name (i := 6) sc__law_lines.nd rfl (by first | exact Or.inl rfl | exact Or.inr rfl))
              (pss_one (ps_set (i := 3) sc__law_lines.nd rfl (by first | exact Or.inl rfl | exact Or.inr rfl) (pe_op op_add_str (pe_op op_add_str (pv 3) pe_str) (pe_callTy call_strIS (by rfl) T.f_str (by decide +kernel) (pa_cons (pv 6) pa_nil))))))
            (pss_one (ps_expr (pe_bm PySem.F.plainAttrs_list PySem.F.slot_list_append PySem.F.type_list_append mt_append (pv 1) (pa_cons (pv 3) pa_nil)))))))))))))
    (pss_one (ps_ret (pv 1))))), ?_⟩
  obtain ⟨a, vs, rfl, ha, hp, hlen⟩ := hl
  refine sq ⟨Nat.zero_le _, fun ln hln => ?_⟩
  have tot : (l.flatMap (lnw (d + 1))).length ≤ 300 := by
    have := linesL_le fun x hx => (ok x hx).a
    omega
  have spl : (" " : Str).length = 1 := by decide +kernel
  refine sq ⟨_, rfl, a, rfl, for_seq (z := z) (xs := vs) (fun i σ H' => ∃ ln v2 v3 v4 v5 v6 F', σ = [some (.ref a), some (.ref ln), v2, v3, v4, v5, v6] ∧ Eff [] F H F' H' ∧ H ln = none ∧ F' ln = none ∧ H' ln = some (SL ((l.take i).flatMap (lnw (d + 1))))) ?_ ?_ ?_ ?_⟩
  · exact ⟨_, _, _, _, _, _, F, rfl, (Eff.refl sFH).loc hln, hln, sFH.free hln, upd_same⟩
  · rintro i σ H1 _ ⟨_, _, _, _, _, _, F1, _, e1, _⟩
    exact e1.sub _ _ (e1.same _ _ ha)
  · clear hln ln
    rintro i y σ H1 hy ⟨ln, v2, v3, v4, v5, v6, F1, rfl, e1, hln, fl1, hl1⟩
    obtain ⟨x, hx, hit⟩ := paired_at hp hy
    obtain ⟨r, hlr, htk⟩ := cut_at hx
    rw [htk]
    have hit1 := isIt_mono e1.same (d + 1) _ _ hit
    have okx := ok x (List.mem_of_getElem? hx)
    have len1 : ((l.take i).flatMap (lnw (d + 1))).length + (lnw (d + 1) x).length ≤ 300 := by
      have := congrArg (fun l => (l.flatMap (lnw (d + 1))).length) hlr
      simp only [List.flatMap_append, List.flatMap_cons, List.length_append] at this
      omega
    have n30 : (nms (d + 1) x).length ≤ 30 := by
      have := congrArg (fun l => (l.flatMap (nms (d + 1))).length) hlr
      simp only [List.flatMap_append, List.flatMap_cons, List.length_append] at this
      have h31 : (l.flatMap (nms (d + 1))).length ≤ 30 := h30
      omega
    rw [List.flatMap_append, List.flatMap_singleton]
    generalize (l.take i).flatMap (lnw (d + 1)) = pre at *
    obtain ⟨b, rfl, hx1⟩ := hit1
    match x, hx1, okx, len1, n30 with
    | .pl p, hx1, okx, len1, n30 =>
      have hx1 : F1 b = some (.tup p.vs) := hx1
      have hx2 := hx1
      rw [p.vs_eq] at hx1
      have hT : SqT K H1 b _ := SqT.of (e1.sub _ _ hx1)
      obtain ⟨vis, hvis, hok⟩ := okx
      have lk : LineOk (p.vs.map txt) := plain_line hvis hok.1 hok.2
      have sml := plain_small (show OkP vis p from hok.2)
      have vq : p.vs.map txt = p.kind :: p.name :: (p.vs.drop 2).map txt := by
        conv => lhs; rw [p.vs_eq]
        rfl
      have l6 : 2 + (p.vs.drop 2).length ≤ 6 := by
        have := lk.2.1
        rw [vq] at this
        simp only [List.length_cons, List.length_map] at this
        omega
      have wk : p.kind.length ≤ 20 := (lk.2.2 _ (by rw [vq]; simp)).1
      have wn : p.name.length ≤ 20 := (lk.2.2 _ (by rw [vq]; simp)).1
      have wp : ∀ v ∈ p.vs.drop 2, (txt v).length ≤ 20 := fun v hv => (lk.2.2 _ (by rw [vq]; exact List.mem_cons_of_mem _ (List.mem_cons_of_mem _ (List.mem_map.mpr ⟨v, hv, rfl⟩)))).1
      have lpre : pre.length ≤ 300 := by omega
      refine sq ⟨_, rfl, b, _, _, _, rfl, rfl, hT, at0, _, _, rfl, rfl, (by rw [spl]; exact len_le _ (by omega)), _, rfl, b, _, _, _, rfl, rfl, hT, at1, _, _, rfl, rfl, (by rw [Str.length_append, spl]; exact len_le _ (by omega)), ?_⟩
      dsimp only
      refine r_kN rfl hT (pk_rep p) (r_kN rfl hT (pk_eit p) (r_kN rfl hT (pk_swi p) ?_))
      rw [← jn2]
      refine sq ⟨_, rfl, _, rfl, b, _, rfl, hT, ?_, fun pt hpt => ⟨pt, rfl, ?_⟩⟩
      · rintro ⟨z1, _⟩
        have : HT.sIx (V.str p.kind :: V.str p.name :: p.vs.drop 2).length 0 (some ((2 : Nat) : Int)) = 0 := z1
        rw [HT.sIx_nat] at this
        simp only [List.length_cons] at this
        omega
      have ec : cutV (V.str p.kind :: V.str p.name :: p.vs.drop 2) (some 2) none = p.vs.drop 2 := by
        unfold cutV
        rw [HT.sIx_none, show (some (2 : Int)) = some ((2 : Nat) : Int) from rfl, HT.sIx_nat]
        simp only [List.length_cons]
        rw [show min 2 ((p.vs.drop 2).length + 1 + 1) = 2 by omega]
        show List.take ((p.vs.drop 2).length + 1 + 1 - 2) (p.vs.drop 2) = p.vs.drop 2
        rw [List.take_of_length_le]
        omega
      rw [ec]
      have e2 := e1.put hpt (o := .tup (p.vs.drop 2))
      have hl2 : (upd H1 pt (.tup (p.vs.drop 2))) ln = _ := (upd_ne (ne_of_none hl1 hpt)).trans hl1
      have fl2 : (upd F1 pt (.tup (p.vs.drop 2))) ln = none := (upd_ne (ne_of_none hl1 hpt)).trans fl1
      refine for_seq (z := true) (xs := p.vs.drop 2) (fun j σ H' => ∃ v4 v5 v6, σ = [some (.ref a), some (.ref ln), some (.ref b), some (.str (jn (p.kind :: (p.name :: ((p.vs.drop 2).take j).map txt)))), v4, v5, v6] ∧ H' = upd H1 pt (.tup (p.vs.drop 2))) ⟨_, _, _, rfl, rfl⟩ (fun j σ H3 _ ⟨_, _, _, _, e⟩ => by rw [e]; exact upd_same) ?_ ?_
      · rintro j y σ H3 hy3 ⟨v4, v5, v6, rfl, rfl⟩
        have hm := List.mem_of_getElem? hy3
        obtain ⟨_, _, ht⟩ := cut_at hy3
        have jl : (jn (p.kind :: (p.name :: ((p.vs.drop 2).take j).map txt))).length ≤ 200 := by
          have z1 := jn_len (ws := p.kind :: (p.name :: ((p.vs.drop 2).take j).map txt)) fun x hx => by
            rcases List.mem_cons.mp hx with rfl | hx
            · exact wk
            rcases List.mem_cons.mp hx with rfl | hx
            · exact wn
            obtain ⟨v, hv, rfl⟩ := List.mem_map.mp hx
            exact wp v (List.mem_of_mem_take hv)
          simp only [List.length_cons, List.length_map, List.length_take] at z1
          omega
        have wy := wp y hm
        refine ⟨_, rfl, _, _, rfl, rfl, (by rw [spl]; exact len_le _ (by omega)), r_strV rfl (sml y (List.mem_of_mem_drop hm)) ⟨_, _, rfl, rfl, (by rw [Str.length_append, spl]; exact len_le _ (by omega)), ?_⟩⟩
        refine ⟨v4, v5, some y, ?_, rfl⟩
        rw [jn_snoc, ht, List.map_append]
        rfl
      · rintro σ H3 ⟨v4, v5, v6, rfl, rfl⟩
        rw [List.take_length, ← vq]
        refine ⟨_, rfl, .inl ⟨rfl, _, SqL.of hl2⟩, _, rfl, ln, _, _, rfl, rfl, hl2, ?_, ?_⟩
        · rw [SL_len]
          exact Nat.lt_of_le_of_lt lpre (by decide)
        refine ⟨ln, _, _, _, _, _, _, rfl, e2.wr fl2 (.inr hln), hln, fl2, ?_⟩
        rw [upd_same]
        exact congrArg some (SL_snoc (ws := p.vs.map txt))
    | .rep n u bl, ⟨w', hx1, hb⟩, okx, len1, n30 =>
      have hT : SqT K H1 b _ := SqT.of (e1.sub _ _ hx1)
      have okb := okN_blocks okx bl (List.mem_singleton.mpr rfl)
      obtain ⟨vis, hvis, hok⟩ := okx
      have wn : WordOk n := name_word hok.1
      have wu : WordOk (txt u.v) := use_word hvis (by decide) hok.2.2.1
      have w1 := wn.1
      have w2 := wu.1
      have len1 : pre.length + ((["repeat", n, txt u.v] : List Str) :: (bl.flatMap (lnw d) ++ [(["end"] : List Str)])).length ≤ 300 := len1
      rw [List.length_cons, List.length_append, List.length_singleton] at len1
      have n30 : (n :: nmsB d [bl]).length ≤ 30 := n30
      rw [List.length_cons, nmsB, List.flatMap_singleton] at n30
      have lk : ("repeat" : Str).length = 6 := by decide +kernel
      refine sq ⟨_, rfl, b, _, _, _, rfl, rfl, hT, at0, _, _, rfl, rfl, (by rw [lk, spl]; decide), _, rfl, b, _, _, _, rfl, rfl, hT, at1, _, _, rfl, rfl, (by rw [Str.length_append, lk, spl]; exact len_le _ (by omega)), ?_⟩
      dsimp only
      refine r_kY rfl hT ?_
      refine ⟨_, rfl, _, rfl, _, _, rfl, rfl, (by rw [Str.length_append, Str.length_append, lk, spl]; exact len_le _ (by omega)), r_strIx rfl hT at2 (sml_u (by decide) hok.2.2.1) ⟨_, _, rfl, rfl, ?_, ?_⟩⟩
      · rw [Str.length_append, Str.length_append, Str.length_append, lk, spl]
        exact len_le _ (by omega)
      rw [js3']
      refine ⟨(by show 1 ≤ sizeLine; decide), fun p1 hp1 => ?_⟩
      have e2 := e1.put hp1 (o := SL [(["repeat", n, txt u.v] : List Str)])
      have hl2 : (upd H1 p1 (SL [(["repeat", n, txt u.v] : List Str)])) ln = _ := (upd_ne (ne_of_none hl1 hp1)).trans hl1
      refine ⟨ln, p1, _, _, rfl, rfl, hl2, upd_same, ?_, fun p2 hp2 => ?_⟩
      · rw [SL_len]
        exact small (by show pre.length + 1 ≤ 1000; omega)
      have e3 := e2.put hp2 (o := SL (pre ++ [(["repeat", n, txt u.v] : List Str)]))
      have s3 : Same F1 (upd (upd F1 p1 (SL [(["repeat", n, txt u.v] : List Str)])) p2 (SL (pre ++ [(["repeat", n, txt u.v] : List Str)]))) := (same_new (e1.sub.free hp1) _).trans (same_new (e2.sub.free hp2) _)
      have eq3 : HO.lst (((pre.map jn).map V.str) ++ [V.str (jn ["repeat", n, txt u.v])]) = SL (pre ++ [(["repeat", n, txt u.v] : List Str)]) := SL_snoc
      rw [eq3]
      refine ⟨_, rfl, b, _, _, _, rfl, rfl, SqT.of (e3.sub _ _ (s3 _ _ hx1)), at3, z, _, w', bl, rfl, e3.sub, isIts_mono s3 hb, okb, (by show (bl.flatMap (nms d)).length ≤ 30; omega), fun r5 F5 H5 e5 hr5 => ?_⟩
      have e35 := e3.pure e5
      refine ⟨p2, r5, _, _, rfl, rfl, e5.sub _ _ (e5.same _ _ upd_same), e5.sub _ _ hr5, ?_, fun p3 hp3 => ?_⟩
      · rw [SL_len, SL_len, List.length_append, List.length_singleton]
        exact small (by omega)
      rw [SL_app]
      have e6 := e35.put hp3 (o := SL (pre ++ [(["repeat", n, txt u.v] : List Str)] ++ bl.flatMap (lnw d)))
      refine ⟨(by show 1 ≤ sizeLine; decide), fun p4 hp4 => ?_⟩
      have e7 := e6.put hp4 (o := .lst [.str "end"])
      have hp34 : p3 ≠ p4 := ne_of_none upd_same hp4
      refine ⟨p3, p4, _, _, rfl, rfl, (upd_ne hp34).trans upd_same, upd_same, ?_, fun p5 hp5 => ?_⟩
      · rw [SL_len, List.length_append, List.length_append, List.length_singleton]
        exact small (by show pre.length + 1 + (bl.flatMap (lnw d)).length + 1 ≤ 1000; omega)
      refine ⟨p5, _, _, _, _, _, _, rfl, e7.loc hp5, e7.none hp5, e7.sub.free hp5, ?_⟩
      rw [upd_same]
      refine (congrArg some (SL_snoc (ws := ["end"]))).trans ?_
      rw [List.append_assoc, List.append_assoc]
      rfl
    | .eit n bs, ⟨w', hx1, hb⟩, okx, len1, n30 =>
      have hT : SqT K H1 b _ := SqT.of (e1.sub _ _ hx1)
      have okb := okN_blocks okx
      obtain ⟨vis, hvis, hok⟩ := okx
      have wn : WordOk n := name_word hok.1
      have w1 := wn.1
      have len1 : pre.length + ((["either", n] : List Str) :: ((bs.flatMap fun b => (["choice"] : List Str) :: b.flatMap (lnw d)) ++ [(["end"] : List Str)])).length ≤ 300 := len1
      rw [List.length_cons, List.length_append, List.length_singleton] at len1
      have n30 : (n :: nmsB d bs).length ≤ 30 := n30
      rw [List.length_cons] at n30
      have lk : ("either" : Str).length = 6 := by decide +kernel
      refine sq ⟨_, rfl, b, _, _, _, rfl, rfl, hT, at0, _, _, rfl, rfl, (by rw [lk, spl]; decide), _, rfl, b, _, _, _, rfl, rfl, hT, at1, _, _, rfl, rfl, (by rw [Str.length_append, lk, spl]; exact len_le _ (by omega)), ?_⟩
      dsimp only
      refine r_kN rfl hT es1 (r_kY rfl hT ?_)
      rw [← jn2]
      refine sq ⟨_, rfl, .inl ⟨rfl, _, SqL.of hl1⟩, _, rfl, ln, _, _, rfl, rfl, hl1, ?_, ?_⟩
      · rw [SL_len]
        exact Nat.lt_of_le_of_lt (show pre.length ≤ 300 by omega) (by decide)
      rw [SL_snoc]
      have e2 := e1.wr fl1 (.inr hln) (o := SL (pre ++ [(["either", n] : List Str)]))
      have hl2 : (upd H1 ln (SL (pre ++ [(["either", n] : List Str)]))) ln = _ := upd_same
      have hT2 : SqT K (upd H1 ln (SL (pre ++ [(["either", n] : List Str)]))) b _ := SqT.of (e2.sub _ _ hx1)
      obtain ⟨wa, ws, rfl, hwa, hpw, hlw⟩ := hb
      dsimp only
      refine sq ⟨_, rfl, b, _, _, _, rfl, rfl, hT2, at2, wa, rfl, for_seq (z := z) (xs := ws) (fun j σ H' => ∃ ln v3 v4 v5 v6 F', σ = [some (.ref a), some (.ref ln), some (.ref b), v3, v4, v5, v6] ∧ Eff [] F H F' H' ∧ Same F1 F' ∧ H ln = none ∧ F' ln = none ∧ H' ln = some (SL (pre ++ [(["either", n] : List Str)] ++ (bs.take j).flatMap fun b => (["choice"] : List Str) :: b.flatMap (lnw d)))) ?_ ?_ ?_ ?_⟩
      · refine ⟨ln, _, _, _, _, F1, rfl, e2, fun _ _ h => h, hln, fl1, ?_⟩
        rw [List.take_zero, List.flatMap_nil, List.append_nil]
        exact hl2
      · rintro j σ H3 _ ⟨_, _, _, _, _, F3, _, e3, s3, _⟩
        exact e3.sub _ _ (s3 _ _ hwa)
      · clear hl2 hT2 e2 hl1 fl1 hln ln
        rintro j y σ H3 hy3 ⟨ln, v3, v4, v5, v6, F3, rfl, e3, s3, hln, fl3, hl3⟩
        obtain ⟨bb, hbb, hib⟩ := paired_at hpw hy3
        obtain ⟨rr, hbr, hbt⟩ := cut_at hbb
        have len3 : ((bs.take j).flatMap fun b => (["choice"] : List Str) :: b.flatMap (lnw d)).length + (1 + (bb.flatMap (lnw d)).length) ≤ (bs.flatMap fun b => (["choice"] : List Str) :: b.flatMap (lnw d)).length := by
          have := congrArg (fun l : List (List (Itm d)) => (l.flatMap fun b => (["choice"] : List Str) :: b.flatMap (lnw d)).length) hbr
          simp only [List.flatMap_append, List.flatMap_cons, List.length_append, List.length_cons] at this
          omega
        have nm3 : (nmsL d bb).length ≤ 29 := by
          have := congrArg (fun l : List (List (Itm d)) => (nmsB d l).length) hbr
          simp only [nmsB, List.flatMap_append, List.flatMap_cons, List.length_append] at this n30
          rw [nmsL]
          omega
        rw [hbt, List.flatMap_append, List.flatMap_singleton]
        generalize ((bs.take j).flatMap fun b => (["choice"] : List Str) :: b.flatMap (lnw d)) = pb at *
        refine ⟨_, rfl, (by show 1 ≤ sizeLine; decide), fun p1 hp1 => ?_⟩
        have e4 := e3.put hp1 (o := SL [(["choice"] : List Str)])
        have hl4 : (upd H3 p1 (SL [(["choice"] : List Str)])) ln = _ := (upd_ne (ne_of_none hl3 hp1)).trans hl3
        refine ⟨ln, p1, _, _, rfl, rfl, hl4, upd_same, ?_, fun p2 hp2 => ?_⟩
        · rw [SL_len, List.length_append, List.length_append, List.length_singleton]
          exact small (by show pre.length + 1 + pb.length + 1 ≤ 1000; omega)
        have eq3 : HO.lst (((pre ++ [(["either", n] : List Str)] ++ pb).map jn).map V.str ++ [V.str "choice"]) = SL (pre ++ [(["either", n] : List Str)] ++ pb ++ [(["choice"] : List Str)]) := SL_snoc (ws := (["choice"] : List Str))
        rw [eq3]
        have e5 := e4.put hp2 (o := SL (pre ++ [(["either", n] : List Str)] ++ pb ++ [(["choice"] : List Str)]))
        have s5 : Same F3 _ := (same_new (e3.sub.free hp1) (SL [(["choice"] : List Str)])).trans (same_new (e4.sub.free hp2) (SL (pre ++ [(["either", n] : List Str)] ++ pb ++ [(["choice"] : List Str)])))
        refine ⟨_, rfl, z, _, y, bb, rfl, e5.sub, isIts_mono (s3.trans s5) hib, okb bb (List.mem_of_getElem? hbb), by omega, fun r6 F6 H6 e6 hr6 => ?_⟩
        refine ⟨p2, r6, _, _, rfl, rfl, e6.sub _ _ (e6.same _ _ upd_same), e6.sub _ _ hr6, ?_, fun p hp7 => ?_⟩
        · rw [SL_len, SL_len, List.length_append, List.length_append, List.length_append, List.length_singleton, List.length_singleton]
          exact small (by omega)
        rw [SL_app]
        have e56 := e5.pure e6
        refine ⟨p, _, _, _, _, F6, rfl, e56.loc hp7, s3.trans (s5.trans e6.same), e56.none hp7, e56.sub.free hp7, ?_⟩
        rw [upd_same]
        simp only [List.append_assoc, List.cons_append, List.nil_append]
      · clear hl2 hT2 e2 hl1 fl1 hln ln
        rintro σ HX ⟨ln, v3, v4, v5, v6, FX, rfl, eX, sX, hln, flX, hlX⟩
        rw [paired_len hpw, List.take_length] at hlX
        have lenX : (pre ++ [(["either", n] : List Str)] ++ bs.flatMap fun b => (["choice"] : List Str) :: b.flatMap (lnw d)).length ≤ 300 := by
          rw [List.length_append, List.length_append, List.length_singleton]
          omega
        refine ⟨_, rfl, .inl ⟨rfl, _, SqL.of hlX⟩, ln, _, _, rfl, rfl, hlX, ?_, ?_⟩
        · rw [SL_len]
          exact Nat.lt_of_le_of_lt lenX (by decide)
        refine ⟨ln, _, _, _, _, _, FX, rfl, eX.wr flX (.inr hln), hln, flX, ?_⟩
        rw [upd_same]
        refine (congrArg some (SL_snoc (ws := ["end"]))).trans ?_
        rw [List.append_assoc, List.append_assoc]
        rfl
    | .swi n t cs, ⟨w', hx1, hb⟩, okx, len1, n30 =>
      have hT : SqT K H1 b _ := SqT.of (e1.sub _ _ hx1)
      have okb := okN_blocks okx
      obtain ⟨vis, hvis, hok⟩ := okx
      have wn : WordOk n := name_word hok.1
      have wt : WordOk t := by
        obtain ⟨lo, hi, ht⟩ := hok.2.2.1
        exact name_word (hvis _ ht)
      have w1 := wn.1
      have w2 := wt.1
      have len1 : pre.length + ((["switch", n, t] : List Str) :: ((cs.flatMap fun c => (["case", txt (.int c.1)] : List Str) :: c.2.flatMap (lnw d)) ++ [(["end"] : List Str)])).length ≤ 300 := len1
      rw [List.length_cons, List.length_append, List.length_singleton] at len1
      have n30 : (n :: nmsB d (cs.map (·.2))).length ≤ 30 := n30
      rw [List.length_cons, nmsB, List.flatMap_map] at n30
      have lk : ("switch" : Str).length = 6 := by decide +kernel
      refine sq ⟨_, rfl, b, _, _, _, rfl, rfl, hT, at0, _, _, rfl, rfl, (by rw [lk, spl]; decide), _, rfl, b, _, _, _, rfl, rfl, hT, at1, _, _, rfl, rfl, (by rw [Str.length_append, lk, spl]; exact len_le _ (by omega)), ?_⟩
      dsimp only
      refine r_kN rfl hT es2 (r_kN rfl hT es3 (r_kY rfl hT ?_))
      refine sq ⟨_, rfl, .inl ⟨rfl, _, SqL.of hl1⟩, _, rfl, _, _, rfl, rfl, (by rw [Str.length_append, Str.length_append, lk, spl]; exact len_le _ (by omega)), _, rfl, b, _, _, _, rfl, rfl, hT, at2, _, _, rfl, rfl, (by rw [Str.length_append, Str.length_append, Str.length_append, lk, spl]; exact len_le _ (by omega)), ?_⟩
      rw [js3']
      refine ⟨ln, _, _, rfl, rfl, hl1, ?_, ?_⟩
      · rw [SL_len]
        exact Nat.lt_of_le_of_lt (show pre.length ≤ 300 by omega) (by decide)
      rw [SL_snoc]
      have e2 := e1.wr fl1 (.inr hln) (o := SL (pre ++ [(["switch", n, t] : List Str)]))
      have hl2 : (upd H1 ln (SL (pre ++ [(["switch", n, t] : List Str)]))) ln = _ := upd_same
      have hT2 : SqT K (upd H1 ln (SL (pre ++ [(["switch", n, t] : List Str)]))) b _ := SqT.of (e2.sub _ _ hx1)
      obtain ⟨wa, ws, rfl, hwa, hpw, hlw⟩ := hb
      dsimp only
      refine sq ⟨_, rfl, b, _, _, _, rfl, rfl, hT2, at3, wa, rfl, for_seq (z := z) (xs := ws) (fun j σ H' => ∃ ln v3 v4 v5 v6 F', σ = [some (.ref a), some (.ref ln), some (.ref b), v3, v4, v5, v6] ∧ Eff [] F H F' H' ∧ Same F1 F' ∧ H ln = none ∧ F' ln = none ∧ H' ln = some (SL (pre ++ [(["switch", n, t] : List Str)] ++ (cs.take j).flatMap fun c => (["case", txt (.int c.1)] : List Str) :: c.2.flatMap (lnw d)))) ?_ ?_ ?_ ?_⟩
      · refine ⟨ln, _, _, _, _, F1, rfl, e2, fun _ _ h => h, hln, fl1, ?_⟩
        rw [List.take_zero, List.flatMap_nil, List.append_nil]
        exact hl2
      · rintro j σ H3 _ ⟨_, _, _, _, _, F3, _, e3, s3, _⟩
        exact e3.sub _ _ (s3 _ _ hwa)
      · clear hl2 hT2 e2 hl1 fl1 hln ln
        rintro j y σ H3 hy3 ⟨ln, v3, v4, v5, v6, F3, rfl, e3, s3, hln, fl3, hl3⟩
        obtain ⟨cc, hbb, ce, cw, rfl, hce, hib⟩ := paired_at hpw hy3
        obtain ⟨rr, hbr, hbt⟩ := cut_at hbb
        have hcc := List.mem_of_getElem? hbb
        have cv := (hok.2.2.2.2.2.2 cc hcc).1
        have len3 : ((cs.take j).flatMap fun c => (["case", txt (.int c.1)] : List Str) :: c.2.flatMap (lnw d)).length + (1 + (cc.2.flatMap (lnw d)).length) ≤ (cs.flatMap fun c => (["case", txt (.int c.1)] : List Str) :: c.2.flatMap (lnw d)).length := by
          have := congrArg (fun l : List (Int × List (Itm d)) => (l.flatMap fun c => (["case", txt (.int c.1)] : List Str) :: c.2.flatMap (lnw d)).length) hbr
          simp only [List.flatMap_append, List.flatMap_cons, List.length_append, List.length_cons] at this
          omega
        have nm3 : (nmsL d cc.2).length ≤ 29 := by
          have := congrArg (fun l : List (Int × List (Itm d)) => (l.flatMap fun c => c.2.flatMap (nms d)).length) hbr
          simp only [List.flatMap_append, List.flatMap_cons, List.length_append] at this n30
          rw [nmsL]
          omega
        rw [hbt, List.flatMap_append, List.flatMap_singleton]
        generalize ((cs.take j).flatMap fun c => (["case", txt (.int c.1)] : List Str) :: c.2.flatMap (lnw d)) = pb at *
        have z3 : ("case " : Str).length = 5 := by decide +kernel
        have w3 : (txt (.int cc.1)).length ≤ 20 := (int_word cv.1 cv.2).1
        have hTe : SqT K H3 ce _ := SqT.of (e3.sub _ _ (s3 _ _ hce))
        refine ⟨_, rfl, _, rfl, ce, _, _, _, rfl, rfl, hTe, at0, .inl ⟨cc.1, rfl, log_small cv.1 cv.2, _, _, rfl, rfl, ?_, ?_⟩⟩
        · have : (Str.ofString (toString cc.1)).length ≤ 20 := w3
          rw [z3]
          exact len_le _ (by omega)
        rw [show ("case " : Str) ++ Str.ofString (toString cc.1) = jn ["case", txt (.int cc.1)] from sp_case' _]
        refine ⟨(by show 1 ≤ sizeLine; decide), fun p1 hp1 => ?_⟩
        have e4 := e3.put hp1 (o := SL [(["case", txt (.int cc.1)] : List Str)])
        have hl4 : (upd H3 p1 (SL [(["case", txt (.int cc.1)] : List Str)])) ln = _ := (upd_ne (ne_of_none hl3 hp1)).trans hl3
        refine ⟨ln, p1, _, _, rfl, rfl, hl4, upd_same, ?_, fun p2 hp2 => ?_⟩
        · rw [SL_len, List.length_append, List.length_append, List.length_singleton]
          exact small (by show pre.length + 1 + pb.length + 1 ≤ 1000; omega)
        have eq3 : HO.lst (((pre ++ [(["switch", n, t] : List Str)] ++ pb).map jn).map V.str ++ [V.str (jn ["case", txt (.int cc.1)])]) = SL (pre ++ [(["switch", n, t] : List Str)] ++ pb ++ [(["case", txt (.int cc.1)] : List Str)]) := SL_snoc
        rw [eq3]
        have e5 := e4.put hp2 (o := SL (pre ++ [(["switch", n, t] : List Str)] ++ pb ++ [(["case", txt (.int cc.1)] : List Str)]))
        have s5 : Same F3 _ := (same_new (e3.sub.free hp1) (SL [(["case", txt (.int cc.1)] : List Str)])).trans (same_new (e4.sub.free hp2) (SL (pre ++ [(["switch", n, t] : List Str)] ++ pb ++ [(["case", txt (.int cc.1)] : List Str)])))
        have hTe2 : SqT K _ ce _ := SqT.of (e5.sub _ _ ((s3.trans s5) _ _ hce))
        refine ⟨_, rfl, ce, _, _, _, rfl, rfl, hTe2, at1, z, _, cw, cc.2, rfl, e5.sub, isIts_mono (s3.trans s5) hib, okb cc.2 (List.mem_map.mpr ⟨cc, hcc, rfl⟩), by omega, fun r6 F6 H6 e6 hr6 => ?_⟩
        refine ⟨p2, r6, _, _, rfl, rfl, e6.sub _ _ (e6.same _ _ upd_same), e6.sub _ _ hr6, ?_, fun p hp7 => ?_⟩
        · rw [SL_len, SL_len, List.length_append, List.length_append, List.length_append, List.length_singleton, List.length_singleton]
          exact small (by omega)
        rw [SL_app]
        have e56 := e5.pure e6
        refine ⟨p, _, _, _, _, F6, rfl, e56.loc hp7, s3.trans (s5.trans e6.same), e56.none hp7, e56.sub.free hp7, ?_⟩
        rw [upd_same]
        simp only [List.append_assoc, List.cons_append, List.nil_append]
      · clear hl2 hT2 e2 hl1 fl1 hln ln
        rintro σ HX ⟨ln, v3, v4, v5, v6, FX, rfl, eX, sX, hln, flX, hlX⟩
        rw [paired_len hpw, List.take_length] at hlX
        have lenX : (pre ++ [(["switch", n, t] : List Str)] ++ cs.flatMap fun c => (["case", txt (.int c.1)] : List Str) :: c.2.flatMap (lnw d)).length ≤ 300 := by
          rw [List.length_append, List.length_append, List.length_singleton]
          omega
        refine ⟨_, rfl, .inl ⟨rfl, _, SqL.of hlX⟩, ln, _, _, rfl, rfl, hlX, ?_, ?_⟩
        · rw [SL_len]
          exact Nat.lt_of_le_of_lt lenX (by decide)
        refine ⟨ln, _, _, _, _, _, FX, rfl, eX.wr flX (.inr hln), hln, flX, ?_⟩
        rw [upd_same]
        refine (congrArg some (SL_snoc (ws := ["end"]))).trans ?_
        rw [List.append_assoc, List.append_assoc]
        rfl
  · rintro σ H1 ⟨ln, v2, v3, v4, v5, v6, F1, rfl, e1, hln, fl1, hl1⟩
    rw [paired_len hp, List.take_length] at hl1
    exact ⟨_, rfl, q ln _ H1 (e1.frz hln hl1) upd_same⟩
theorem lines_all (F : Fun K "_law_lines" "_law_lines" s__law_lines f fd) (hm : mg "_law_lines" = some (.ref f)) (T : Tx w K mg) : ∀ d, Fc P w K mg base (d + 1) "_law_lines" (spFmt d)
  | 0 => fc_of hm F.kp (ok_law_lines0 F hm T)
  | d + 1 => fc_of hm F.kp (ok_law_lines F T (lines_all F hm T d))
end
end K6
set_option Elab.async false
set_option linter.all false
set_option maxRecDepth 100000
set_option maxHeartbeats 4000000
namespace K6
open PySem L2 TL
/-! ### words that are numbers, words that are names -/
theorem numL_head : ∀ (m n : Nat), n ≤ m → 0 < n → ∃ c r, numL n = c :: r ∧ c ≠ 48
  | 0, n, h, h0 => by omega
  | m + 1, n, h, h0 => by
    by_cases h10 : n < 10
    · exact ⟨48 + n, [], numL_lt h10, by omega⟩
    · obtain ⟨c, r, e, hc⟩ := numL_head m (n / 10) (by omega) (by omega)
      exact ⟨c, r ++ [48 + n % 10], by rw [numL_step (by omega), e]; rfl, hc⟩
theorem digits_mem {c : Nat} (h : 48 ≤ c ∧ c ≤ 57) : c ∈ tl digits := by
  have e : tl digits = [48, 49, 50, 51, 52, 53, 54, 55, 56, 57] := by decide +kernel
  rw [e]
  simp only [List.mem_cons, List.not_mem_nil, or_false]
  omega
theorem int_isInt {n : Int} (h0 : 0 ≤ n) (h1 : n ≤ 65535) : isIntB (txt (.int n)) = true ∧ intText? (txt (.int n)) = some n := by
  have et := tl_int h0
  have ln : (txt (.int n)).length = (numL n.toNat).length := by rw [len_tl, et]
  have l5 := numL_len (n := n.toNat) (k := 5) (by decide) (by omega)
  have ne := numL_ne n.toNat
  have lp : 0 < (numL n.toNat).length := List.length_pos_iff.mpr ne
  have dg : ∀ c ∈ numL n.toNat, 48 ≤ c ∧ c ≤ 57 := numL_digits n.toNat
  refine ⟨?_, ?_⟩
  · have e1 : (txt (.int n)).cps.toList = numL n.toNat := et
    have a1 : decide (1 ≤ (txt (.int n)).length) = true := decide_eq_true (by omega)
    have a2 : decide ((txt (.int n)).length ≤ 9) = true := decide_eq_true (by omega)
    have a3 : ((numL n.toNat).all fun c => decide (c ∈ digits.cps.toList)) = true := by
      rw [List.all_eq_true]
      intro c hc
      exact decide_eq_true (digits_mem (dg c hc))
    by_cases z : n = 0
    · subst z
      decide +kernel
    · obtain ⟨c, r, e2, hc⟩ := numL_head n.toNat n.toNat (Nat.le_refl _) (by omega)
      rw [isIntB, a1, a2, e1, a3, e2]
      simp [hc]
  · have e2 : txt (.int n) = Str.ofString (toString ((n.toNat : Nat) : Int)) := by
      rw [Int.toNat_of_nonneg h0]
      rfl
    rw [e2, int_num (by omega), Int.toNat_of_nonneg h0]
theorem name_notInt {x : Str} (h : isNameB x = true) : isIntB x = false := by
  cases e : isIntB x with
  | false => rfl
  | true =>
    simp only [isNameB, isIntB, Bool.and_eq_true, decide_eq_true_eq] at h e
    have h1 := h.1.1.1
    have h2 := h.1.2
    have h3 := e.1.2
    rw [PySem.Str.length] at h1
    cases hl : x.cps.toList with
    | nil =>
      have : x.cps.size = 0 := by rw [← Array.length_toList, hl]; rfl
      omega
    | cons c r =>
      rw [hl] at h2 h3
      have h4 := List.all_eq_true.mp h3 c List.mem_cons_self
      simp only [decide_eq_true_eq] at h4
      simp [h4] at h2
theorem parsed_int {n : Int} (h0 : 0 ≤ n) (h1 : n ≤ 65535) : parsedV (txt (.int n)) = .int n := by
  obtain ⟨e1, e2⟩ := int_isInt h0 h1
  rw [parsedV, if_pos e1, e2]
  rfl
theorem parsed_str {x : Str} (h : isIntB x = false) : parsedV (txt (.str x)) = .str x := by
  show parsedV x = _
  rw [parsedV, if_neg (by rw [h]; decide)]
/-! ### what a line's words are -/
def SortOk (x s : Str) : Prop := hasSortB x s = true ∧ x.length ≤ 20 ∧ (isIntB x = true → ∃ n, intText? x = some n)
def PartOk (v : V) (s : Str) : Prop := SortOk (txt v) s ∧ parsedV (txt v) = v
def FormOk (word : Str) (vs : List V) : Prop := ∃ form, (word, form) ∈ formsTab ∧ Paired PartOk vs (Txt.words form) ∧ (Txt.words form).length ≤ 6
theorem po_name {x : Str} (h : isNameB x = true) : PartOk (.str x) "name" := by
  refine ⟨⟨?_, (name_word h).1, fun z => ?_⟩, parsed_str (name_notInt h)⟩
  · have n1 : ("name" : Str) ≠ "integer" := by decide +kernel
    have n2 : ("name" : Str) ≠ "order" := by decide +kernel
    show hasSortB x "name" = true
    rw [hasSortB, if_neg n1, if_neg n2, h, Bool.or_true]
  · have z : isIntB x = true := z
    rw [name_notInt h] at z
    cases z
theorem po_int {n : Int} (h0 : 0 ≤ n) (h1 : n ≤ 65535) : PartOk (.int n) "integer" := by
  obtain ⟨e1, e2⟩ := int_isInt h0 h1
  refine ⟨⟨?_, (int_word h0 h1).1, fun _ => ⟨n, e2⟩⟩, parsed_int h0 h1⟩
  rw [hasSortB, if_pos rfl, e1]
theorem po_use {vis : Env1} {most : Int} {u : Use} (hv : VisN vis) (hm : most ≤ 65535) (h : UseOk vis most u) : PartOk u.v "use" := by
  have n1 : ("use" : Str) ≠ "integer" := by decide +kernel
  have n2 : ("use" : Str) ≠ "order" := by decide +kernel
  cases u with
  | lit n =>
    have h1 : n ≤ 65535 := by have := h.2; omega
    obtain ⟨e1, e2⟩ := int_isInt h.1 h1
    refine ⟨⟨?_, (int_word h.1 h1).1, fun _ => ⟨n, e2⟩⟩, parsed_int h.1 h1⟩
    show hasSortB (txt (.int n)) "use" = true
    rw [hasSortB, if_neg n1, if_neg n2, e1, decide_eq_true rfl]
    rfl
  | nam x =>
    obtain ⟨lo, hi, h1, _⟩ := h
    have hx := hv _ h1
    refine ⟨⟨?_, (name_word hx).1, fun z => ?_⟩, parsed_str (name_notInt hx)⟩
    · show hasSortB x "use" = true
      rw [hasSortB, if_neg n1, if_neg n2, hx, Bool.or_true]
    · have z : isIntB x = true := z
      rw [name_notInt hx] at z
      cases z
theorem po_order {x : Str} (h : x = "big" ∨ x = "little") : PartOk (.str x) "order" := by
  have n1 : ("order" : Str) ≠ "integer" := by decide +kernel
  have i1 : isIntB "big" = false := by decide +kernel
  have i2 : isIntB "little" = false := by decide +kernel
  rcases h with rfl | rfl
  · refine ⟨⟨?_, w_big.1, fun z => ?_⟩, parsed_str i1⟩
    · decide +kernel
    · have z : isIntB "big" = true := z
      rw [i1] at z
      cases z
  · refine ⟨⟨?_, w_little.1, fun z => ?_⟩, parsed_str i2⟩
    · decide +kernel
    · have z : isIntB "little" = true := z
      rw [i2] at z
      cases z
theorem wds_number : Txt.words "name integer order integer integer" = (["name", "integer", "order", "integer", "integer"] : List Str) := by decide +kernel
theorem wds_use : Txt.words "name use" = (["name", "use"] : List Str) := by decide +kernel
theorem wds_two : Txt.words "name integer integer" = (["name", "integer", "integer"] : List Str) := by decide +kernel
theorem wds_name : Txt.words "name" = (["name"] : List Str) := by decide +kernel
theorem wds_names : Txt.words "name name" = (["name", "name"] : List Str) := by decide +kernel
theorem wds_int : Txt.words "name integer" = (["name", "integer"] : List Str) := by decide +kernel
theorem wds_no : Txt.words "" = [] := by decide +kernel
theorem wds_case : Txt.words "integer" = (["integer"] : List Str) := by decide +kernel
theorem fo_plain {vis : Env1} {p : Plain} (hv : VisN vis) (hn : isNameB p.name = true) (h : OkP vis p) : FormOk p.kind (.str p.name :: p.vs.drop 2) := by
  cases p with
  | number x s o l h' =>
    obtain ⟨h1, h2, h3, h4⟩ := h
    refine ⟨"name integer order integer integer", by dsimp only [Plain.kind]; decide +kernel, ?_, by rw [wds_number]; decide⟩
    rw [wds_number]
    refine .cons (po_name hn) (.cons (po_int ?_ ?_) (.cons (po_order h2) (.cons (po_int h3 ?_) (.cons (po_int ?_ ?_) .nil))))
    all_goals first | omega | (rcases h1 with q | q <;> omega)
  | bytes x u =>
    refine ⟨"name use", by dsimp only [Plain.kind]; decide +kernel, ?_, by rw [wds_use]; decide⟩
    rw [wds_use]
    exact .cons (po_name hn) (.cons (po_use hv (by decide) h) .nil)
  | text x s m =>
    obtain ⟨⟨h1, h2⟩, h3, h4⟩ := h
    refine ⟨"name integer integer", by dsimp only [Plain.kind]; decide +kernel, ?_, by rw [wds_two]; decide⟩
    rw [wds_two]
    exact .cons (po_name hn) (.cons (po_int h1 (by omega)) (.cons (po_int h3 (by omega)) .nil))
  | check x m =>
    obtain ⟨h1, h2⟩ := h
    refine ⟨"name integer", by dsimp only [Plain.kind]; decide +kernel, ?_, by rw [wds_int]; decide⟩
    rw [wds_int]
    exact .cons (po_name hn) (.cons (po_int (by omega) (by omega)) .nil)
  | pad x m b =>
    obtain ⟨h1, h2, h3⟩ := h
    refine ⟨"name integer integer", by dsimp only [Plain.kind]; decide +kernel, ?_, by rw [wds_two]; decide⟩
    rw [wds_two]
    refine .cons (po_name hn) (.cons (po_int ?_ ?_) (.cons (po_int h2 (by omega)) .nil))
    all_goals (rcases h1 with q | q | q | q | q <;> omega)
theorem fo_repeat {vis : Env1} {n : Str} {u : Use} {most : Int} (hv : VisN vis) (hn : isNameB n = true) (hm : most ≤ 65535) (h : UseOk vis most u) : FormOk "repeat" [.str n, u.v] :=
  ⟨"name use", by decide +kernel, by rw [wds_use]; exact .cons (po_name hn) (.cons (po_use hv hm h) .nil), by rw [wds_use]; decide⟩
theorem fo_either {n : Str} (hn : isNameB n = true) : FormOk "either" [.str n] := ⟨"name", by decide +kernel, by rw [wds_name]; exact .cons (po_name hn) .nil, by rw [wds_name]; decide⟩
theorem fo_switch {n t : Str} (hn : isNameB n = true) (ht : isNameB t = true) : FormOk "switch" [.str n, .str t] :=
  ⟨"name name", by decide +kernel, by rw [wds_names]; exact .cons (po_name hn) (.cons (po_name ht) .nil), by rw [wds_names]; decide⟩
theorem fo_choice : FormOk "choice" [] := ⟨"", by decide +kernel, by rw [wds_no]; exact .nil, by rw [wds_no]; decide⟩
theorem fo_end : FormOk "end" [] := ⟨"", by decide +kernel, by rw [wds_no]; exact .nil, by rw [wds_no]; decide⟩
theorem fo_case {n : Int} (h0 : 0 ≤ n) (h1 : n ≤ 65535) : FormOk "case" [.int n] := ⟨"integer", by decide +kernel, by rw [wds_case]; exact .cons (po_int h0 h1) .nil, by rw [wds_case]; decide⟩
/-! ### lines, cut again -/
theorem tl_nl : tl "\n" = [10] := by decide +kernel
theorem tl_sp : tl " " = [32] := by decide +kernel
theorem jn_no10 : ∀ {ws : List Str}, (∀ x ∈ ws, WordOk x) → 10 ∉ tl (jn ws)
  | [], _ => by
    rw [jn_eq]
    show 10 ∉ ([] : List Nat)
    simp
  | [a], h => by
    rw [jn1]
    exact fun z => ((h a (List.mem_singleton.mpr rfl)).2 10 z).2 rfl
  | a :: b :: r, h => by
    rw [jn_cons, tl_append, tl_append, tl_sp]
    intro z
    simp only [List.mem_append, List.mem_singleton] at z
    rcases z with (z | z) | z
    · exact ((h a List.mem_cons_self).2 10 z).2 rfl
    · omega
    · exact jn_no10 (ws := b :: r) (fun x hx => h x (List.mem_cons_of_mem _ hx)) z
theorem split_line {ws : List Str} (h : LineOk ws) : Txt.split (jn ws) " " = ws :=
  split_join tl_sp (by decide +kernel) h.1 fun p hp z => ((h.2.2 p hp).2 32 z).1 rfl
theorem split_text {ls : List (List Str)} (h0 : ls ≠ []) (h : ∀ ws ∈ ls, LineOk ws) : Txt.split (Txt.join "\n" (ls.map jn)) "\n" = ls.map jn :=
  split_join tl_nl (by decide +kernel) (fun e => h0 (List.map_eq_nil_iff.mp e)) fun p hp z => by
    obtain ⟨ws, hw, rfl⟩ := List.mem_map.mp hp
    exact jn_no10 (h ws hw).2.2 z
end K6
set_option Elab.async false
set_option linter.all false
set_option maxRecDepth 100000
set_option maxHeartbeats 4000000
namespace K6
open PySem PySem.Spec PyProof.Rows L2
/-! ### the reader's object -/
abbrev CR (K : PySem.W.Frag) : Addr := He.ga K "ShapeReader"
def rdf (La : Addr) (k : Nat) : List (Str × V) := [("lines", .ref La), ("at", .int k)]
theorem rdf_lines {La : Addr} {k : Nat} : (rdf La k).lookup ("lines" : Str) = some (.ref La) := lkY
theorem rdf_at {La : Addr} {k : Nat} : (rdf La k).lookup ("at" : Str) = some (.int k) := (lkN (by decide +kernel)).trans lkY
theorem rdf_no {La : Addr} {k : Nat} {m : Str} (h1 : (m == ("lines" : Str)) = false) (h2 : (m == ("at" : Str)) = false) : (rdf La k).lookup m = none := (lkN h1).trans (lkN h2)
theorem rdf_next {La : Addr} {k : Nat} : (rdf La k).lookup ("next_word" : Str) = none := rdf_no (by decide +kernel) (by decide +kernel)
theorem rdf_take {La : Addr} {k : Nat} : (rdf La k).lookup ("take" : Str) = none := rdf_no (by decide +kernel) (by decide +kernel)
theorem rdf_items {La : Addr} {k : Nat} : (rdf La k).lookup ("take_items" : Str) = none := rdf_no (by decide +kernel) (by decide +kernel)
theorem rdf_item {La : Addr} {k : Nat} : (rdf La k).lookup ("take_item" : Str) = none := rdf_no (by decide +kernel) (by decide +kernel)
theorem rdf_blocks {La : Addr} {k : Nat} : (rdf La k).lookup ("take_blocks" : Str) = none := rdf_no (by decide +kernel) (by decide +kernel)
theorem rdf_put {La : Addr} {k : Nat} : putF "at" (.int ((k : Int) + 1)) (rdf La k) = rdf La (k + 1) := (put_other (by decide +kernel)).trans (congrArg (fun z => (("lines" : Str), V.ref La) :: z) put_self)
structure RdAt (C : Addr) (F H : Hp) (sf La : Addr) (lines : List (List Str)) (k : Nat) : Prop where
  sub : Same F H
  obj : ∃ dx, H sf = some (.ins C dx (rdf La k))
  fs : F sf = none
  ls : ∃ vs, F La = some (.lst vs) ∧ Paired (fun v (ws : List Str) => ∃ a, v = .ref a ∧ F a = some (.lst (ws.map V.str))) vs lines
  le : k ≤ lines.length
  sz : lines.length ≤ 300
  wd : ∀ ws ∈ lines, ws.length ≤ 6
section
variable {C : Addr} {F H F' H' : Hp} {self La : Addr} {lines : List (List Str)} {k : Nat}
theorem RdAt.pure (r : RdAt C F H self La lines k) (e : Eff [] F H F' H') : RdAt C F' H' self La lines k := by
  obtain ⟨dx, ho⟩ := r.obj
  obtain ⟨vs, h1, h2⟩ := r.ls
  exact ⟨e.sub, ⟨dx, e.all _ _ ho⟩, e.fresh _ r.fs (by rw [ho]; intro z; cases z), ⟨vs, e.same _ _ h1, paired_mono (fun _ _ ⟨a, h3, h4⟩ => ⟨a, h3, e.same _ _ h4⟩) h2⟩, r.le, r.sz, r.wd⟩
theorem RdAt.other {p : Addr} {o : HO} (r : RdAt C F H self La lines k) (h1 : p ≠ self) (hF : F p = none) : RdAt C F (upd H p o) self La lines k := by
  obtain ⟨dx, ho⟩ := r.obj
  exact ⟨sub_mut r.sub hF, ⟨dx, by rw [upd_ne h1.symm]; exact ho⟩, r.fs, r.ls, r.le, r.sz, r.wd⟩
theorem RdAt.step {dx : Addr} (r : RdAt C F H self La lines k) (h : k + 1 ≤ lines.length) : RdAt C F (upd H self (.ins C dx (rdf La (k + 1)))) self La lines (k + 1) :=
  ⟨sub_mut r.sub r.fs, ⟨dx, upd_same⟩, r.fs, r.ls, h, r.sz, r.wd⟩
end
theorem drop_at {α : Type} {l : List α} {k : Nat} {x : α} {r : List α} (h : l.drop k = x :: r) : l[k]? = some x ∧ l.drop (k + 1) = r ∧ k + 1 ≤ l.length := by
  have h0 : k < l.length := by
    refine Nat.lt_of_not_le fun z => ?_
    rw [List.drop_eq_nil_iff.mpr z] at h
    cases h
  rw [List.drop_eq_getElem_cons h0] at h
  injection h with h1 h2
  exact ⟨by rw [List.getElem?_eq_getElem h0, h1], h2, h0⟩
theorem cut1 (a : V) (l : List V) : cutV (a :: l) (some 1) none = l := by
  unfold cutV
  rw [HT.sIx_none, show (some (1 : Int)) = some ((1 : Nat) : Int) from rfl, HT.sIx_nat]
  simp only [List.length_cons]
  rw [show min 1 (l.length + 1) = 1 by omega]
  show List.take (l.length + 1 - 1) l = l
  exact List.take_of_length_le (by omega)
theorem join_le (y : Str) : ∀ l : List Str, (Str.join y l).length ≤ (l.map (·.length)).sum + l.length * y.length
  | [] => Nat.zero_le _
  | [a] => by
    show a.length ≤ a.length + 0 + 1 * y.length
    omega
  | a :: b :: r => by
    show (a ++ y ++ Str.join y (b :: r)).length ≤ _
    have ih := join_le y (b :: r)
    rw [Str.length_append, Str.length_append, List.map_cons, List.sum_cons, List.length_cons, Nat.add_mul]
    omega
section
variable {P : Program} {w : World} {K : PySem.W.Frag} {mg : Str → Option Value} {base : Heap} {f : Addr} {fd : FuncData}
def spReader (K : PySem.W.Frag) : Sp := fun vs H Q _ => ∃ (F : Hp) (self dx : Addr) (lines : List (List Str)) (x : Str), vs = [.ref self, .str x] ∧ Same F H ∧ F self = none ∧ H self = some (.ins (CR K) dx []) ∧ x = Txt.join "\n" (lines.map jn) ∧ x.length ≤ 100000 ∧ lines ≠ [] ∧ (∀ ws ∈ lines, LineOk ws) ∧ lines.length ≤ 300 ∧
  ∀ La F' H', Eff [self] F H F' H' → RdAt (CR K) F' H' self La lines 0 → Q .non H'
abbrev s_ShapeReader_init : Stmt := inClass (top 42) 0
abbrev N_ShapeReader_init : List Str := ["self", "text", "line"]
theorem sc_ShapeReader_init : FnScope N_ShapeReader_init ["self", "text"] (defScope s_ShapeReader_init) := ⟨rfl, rfl, rfl, by decide +kernel, rfl, by decide +kernel, by decide +kernel⟩
theorem b_ShapeReader_init (kV doc pm : Value) (an : Option Addr) (cdv ct : Value) (us : List Value) (hl : us.length = (["self", "text"] : List Str).length) : bindArgs (PySem.W.fnOf "__init__" "ShapeReader.__init__" (defArgs s_ShapeReader_init) (defBody s_ShapeReader_init) (defScope s_ShapeReader_init) .none kV doc pm an cdv ct) ⟨us, []⟩ = pure ((["self", "text"] : List Str).zip us) := match us, hl with | [_, _], _ => rfl
theorem ok_reader_init (F : Fun K "__init__" "ShapeReader.__init__" s_ShapeReader_init f fd) (T : Tx w K mg) : FnR P w K mg base CX0 1 f (spReader K) := by
  refine raw_of F sc_ShapeReader_init b_ShapeReader_init (fun vs H Q E h => by obtain ⟨_, _, _, _, _, rfl, _⟩ := h; rfl) (fun cdv A outer s H vs Q E hr h => ?_)
  obtain ⟨F, self, dx, lines, x, rfl, sFH, hF, hs, hx, xl, l0, lok, l3, q⟩ := h
  refine ⟨_, (pss_cons (ps_fld (pv 0) (pe_lcs (pe_lc (own := [("line", 2)]) (g := gName 2) (tt := tYes) rfl sc_ShapeReader_init.nd (pi_seq (pe_split (pv 1) pe_str)) (blkOk_by (own := [("line", 2)]) (N := N_ShapeReader_init) (sc := defScope s_ShapeReader_init) (by decide +kernel)) (fun _ _ _ _ _ => (pg_name (i := 2) sc_ShapeReader_init.nd rfl (by first | exact Or.inl rfl | exact Or.inr rfl))) (fun _ _ _ _ _ => pts_nil) (fun _ _ _ _ _ => (pe_split (pv 2) pe_str)))) (by rfl))
    (pss_one (ps_fld (pv 0) pe_int (by rfl)))), ?_⟩
  have hsp : Txt.split x "\n" = lines.map jn := by rw [hx]; exact split_text l0 lok
  refine sq ⟨_, rfl, ⟨_, rfl⟩, _, _, rfl, rfl, by decide +kernel, ?_, ?_⟩
  · exact Nat.le_trans (Nat.add_le_add_right xl 2) (by decide)
  rw [hsp]
  intro p hp
  have e1 := (Eff.refl sFH (M := [])).put hp (o := .lst ((lines.map jn).map V.str))
  have el : ((lines.map jn).map V.str).length = lines.length := by rw [List.length_map, List.length_map]
  refine ⟨p, rfl, lcp (.inl (SqL.of upd_same)) (by omega) e1.sub (fun i y F' => ∃ ws, lines[i]? = some ws ∧ ∃ a, y = .ref a ∧ F' a = some (.lst (ws.map V.str))) (fun i y F' F'' s ⟨ws, h1, a, h2, h3⟩ => ⟨ws, h1, a, h2, s _ _ h3⟩) (fun i v F' H' hv ef kk hk => ?_) (fun D ys F2 H2 nD ef hD hl2 hR => ?_)⟩
  · rw [List.getElem?_map, List.getElem?_map] at hv
    cases hw : lines[i]? with
    | none => rw [hw] at hv; cases hv
    | some ws =>
      rw [hw] at hv
      cases hv
      have lk := lok ws (List.mem_of_getElem? hw)
      refine ⟨rfl, _, rfl, ⟨_, rfl⟩, _, _, rfl, rfl, by decide +kernel, ?_, ?_⟩
      · exact Nat.le_trans (Nat.add_le_add_right (line_len lk) 2) (by decide)
      rw [split_line lk]
      intro p2 hp2
      exact hk _ _ _ ((Eff.refl ef.sub).put hp2) ⟨ws, hw, p2, rfl, upd_same⟩
  have e2 := e1.pure ef
  have hs2 : H2 self = _ := e2.all _ _ hs
  have f2 : F2 self = none := e2.fresh _ hF (by rw [hs]; intro z; cases z)
  refine ⟨_, rfl, self, _, dx, [], rfl, hs2, T.c_ShapeReader, T.n_ShapeReader_lines, (by show 0 < 1000; decide), ?_⟩
  have p0 : putF "lines" (V.ref D) ([] : List (Str × V)) = ([("lines", V.ref D)] : List (Str × V)) := rfl
  rw [p0]
  have e3 := (e2.more (M' := [self]) (by intro m hm; cases hm)).wr f2 (.inl (by simp)) (o := .ins (CR K) dx [("lines", V.ref D)])
  refine ⟨_, rfl, self, _, dx, _, rfl, upd_same, T.c_ShapeReader, T.n_ShapeReader_at, (by show 1 < 1000; decide), ?_⟩
  have p1 : putF "at" (V.int 0) ([("lines", V.ref D)] : List (Str × V)) = rdf D 0 := put_other (by decide +kernel)
  rw [p1]
  have e4 := e3.wr f2 (.inl (by simp)) (o := .ins (CR K) dx (rdf D 0))
  refine q D F2 _ e4 ⟨e4.sub, ⟨dx, upd_same⟩, f2, ⟨ys, hD, paired_of (by omega) fun i y ws h1 h2 => ?_⟩, Nat.zero_le _, l3, fun ws hw => (lok ws hw).2.1⟩
  obtain ⟨ws', h3, a, h4, h5⟩ := hR i y h1
  rw [h2] at h3
  cases h3
  exact ⟨a, h4, h5⟩
def NextIs (rest : List (List Str)) (x : Str) : Prop := (rest = [] ∧ x = "") ∨ ∃ ws r, rest = (x :: ws) :: r
def spNext (K : PySem.W.Frag) : Sp := fun vs H Q _ => ∃ (F : Hp) (self La : Addr) (lines : List (List Str)) (k : Nat) (x : Str), vs = [.ref self] ∧ RdAt (CR K) F H self La lines k ∧ NextIs (lines.drop k) x ∧ Q (.str x) H
abbrev s_ShapeReader_next_word : Stmt := inClass (top 42) 1
abbrev N_ShapeReader_next_word : List Str := ["self"]
theorem sc_ShapeReader_next_word : FnScope N_ShapeReader_next_word ["self"] (defScope s_ShapeReader_next_word) := ⟨rfl, rfl, rfl, by decide +kernel, rfl, by decide +kernel, by decide +kernel⟩
theorem b_ShapeReader_next_word (kV doc pm : Value) (an : Option Addr) (cdv ct : Value) (us : List Value) (hl : us.length = (["self"] : List Str).length) : bindArgs (PySem.W.fnOf "next_word" "ShapeReader.next_word" (defArgs s_ShapeReader_next_word) (defBody s_ShapeReader_next_word) (defScope s_ShapeReader_next_word) .none kV doc pm an cdv ct) ⟨us, []⟩ = pure ((["self"] : List Str).zip us) := match us, hl with | [_], _ => rfl
theorem ok_next_word (F : Fun K "next_word" "ShapeReader.next_word" s_ShapeReader_next_word f fd) (T : Tx w K mg) : FnR P w K mg base CX0 1 f (spNext K) := by
  refine raw_of F sc_ShapeReader_next_word b_ShapeReader_next_word (fun vs H Q E h => by obtain ⟨_, _, _, _, _, _, rfl, _⟩ := h; rfl) (fun cdv A outer s H vs Q E hr h => ?_)
  obtain ⟨F, self, La, lines, k, x, rfl, r, hx, q⟩ := h
  refine ⟨_, (pss_cons (ps_if (pt_cmpR op_eq (pe_fld (pv 0) (by rfl)) (pe_callB call_len_seq (by rfl) T.f_len PySem.boot_len (pa_cons (pe_fld (pv 0) (by rfl)) pa_nil)) (nomark _))
      (pss_one (ps_ret pe_str))
      pss_nil)
    (pss_one (ps_ret (pe_ix ix_list (pe_ix ix_list (pe_fld (pv 0) (by rfl)) (pe_fld (pv 0) (by rfl)) (fun _ _ => rfl)) pe_int (fun _ _ => rfl))))), ?_⟩
  obtain ⟨dx, ho⟩ := r.obj
  obtain ⟨vs, h1, h2⟩ := r.ls
  have hl := paired_len h2
  have hS : SqL K H La vs := SqL.of (r.sub _ _ h1)
  refine ⟨_, rfl, self, _, dx, _, _, rfl, ho, T.c_ShapeReader, T.n_ShapeReader_at, rdf_at, _, rfl, self, _, dx, _, _, rfl, ho, T.c_ShapeReader, T.n_ShapeReader_lines, rdf_lines, La, _, rfl, .inl hS, rfl, _, rfl, ite2 (fun c => ?_) (fun c => ?_)⟩
  · have c1 : k = lines.length := by
      have := V.int.inj (of_decide_eq_true c)
      omega
    rcases hx with ⟨_, rfl⟩ | ⟨ws, r2, e⟩
    · exact q
    · have := (drop_at e).2.2
      omega
  · rcases hx with ⟨e, rfl⟩ | ⟨ws, r2, e⟩
    · have := List.drop_eq_nil_iff.mp e
      have := r.le
      have c1 : k = vs.length := by omega
      subst c1
      exact absurd (decide_eq_true rfl) c
    · obtain ⟨g1, g2, g3⟩ := drop_at e
      obtain ⟨v, hv, a, rfl, ha⟩ := paired_at' h2 g1
      have hA : SqL K H a _ := SqL.of (r.sub _ _ ha)
      refine ⟨_, rfl, self, _, dx, _, _, rfl, ho, T.c_ShapeReader, T.n_ShapeReader_lines, rdf_lines, _, rfl, self, _, dx, _, _, rfl, ho, T.c_ShapeReader, T.n_ShapeReader_at, rdf_at, La, _, _, _, rfl, rfl, hS, at_nat_ rfl hv, a, _, _, _, rfl, rfl, hA, at0, q⟩
theorem forms_in (T : Tx w K mg) {q : Str × Str} (h : q ∈ formsTab) : KDct K w (He.ga K "FORMS") q.1 (.str q.2) := by
  obtain ⟨u, h1, h2⟩ := T.fIn q h
  obtain ⟨es, n, D⟩ := T.dF
  exact ⟨es, n, u, D.1, D.2, h1, h2⟩
theorem form_len : ∀ q ∈ formsTab, q.2.length ≤ 100 := by decide +kernel
def spTake (K : PySem.W.Frag) : Sp := fun vs H Q _ => ∃ (F : Hp) (self La : Addr) (lines : List (List Str)) (k : Nat) (x : Str) (ps : List V) (r : List (List Str)), vs = [.ref self, .str x] ∧ RdAt (CR K) F H self La lines k ∧ lines.drop k = (x :: ps.map txt) :: r ∧ FormOk x ps ∧
  ∀ a F' H', Eff [self] F H F' H' → RdAt (CR K) F' H' self La lines (k + 1) → F' a = some (.lst ps) → Q (.ref a) H'
abbrev s_ShapeReader_take : Stmt := inClass (top 42) 2
abbrev N_ShapeReader_take : List Str := ["self", "word", "words", "sorts", "number", "sort", "part"]
theorem sc_ShapeReader_take : FnScope N_ShapeReader_take ["self", "word"] (defScope s_ShapeReader_take) := ⟨rfl, rfl, rfl, by decide +kernel, rfl, by decide +kernel, by decide +kernel⟩
theorem b_ShapeReader_take (kV doc pm : Value) (an : Option Addr) (cdv ct : Value) (us : List Value) (hl : us.length = (["self", "word"] : List Str).length) : bindArgs (PySem.W.fnOf "take" "ShapeReader.take" (defArgs s_ShapeReader_take) (defBody s_ShapeReader_take) (defScope s_ShapeReader_take) .none kV doc pm an cdv ct) ⟨us, []⟩ = pure ((["self", "word"] : List Str).zip us) := match us, hl with | [_, _], _ => rfl
theorem ok_take (F : Fun K "take" "ShapeReader.take" s_ShapeReader_take f fd) (T : Tx w K mg) (F_next_word : Mc P w K mg base 1 (CR K) "next_word" (spNext K)) (F_has_sort : Fc P w K mg base 2 "has_sort" spHasSort) (F_parsed : Fc P w K mg base 2 "parsed" spParsed) : FnR P w K mg base CX0 3 f (spTake K) := by
  refine raw_of F sc_ShapeReader_take b_ShapeReader_take (fun vs H Q E h => by obtain ⟨_, _, _, _, _, _, _, _, rfl, _⟩ := h; rfl) (fun cdv A outer s H vs Q E hr h => ?_)
  obtain ⟨F, self, La, lines, k, x, ps, r, rfl, rd, hd, ⟨form, hf, hform, f6⟩, q⟩ := h
  refine ⟨_, (pss_cons (ps_if (pt_cmpR op_ne (pe_mt0 (pv 0) T.c_ShapeReader F_next_word (hr.mono (by omega))) (pv 1) (nomark _))
      (pss_one ps_never)
      pss_nil)
    (pss_cons (ps_set (i := 2) sc_ShapeReader_take.nd rfl (by first | exact Or.inl rfl | exact Or.inr rfl) (pe_slice sl_list (pe_ix ix_list (pe_fld (pv 0) (by rfl)) (pe_fld (pv 0) (by rfl)) (fun _ _ => rfl)) (po_some pe_int) po_none))
    (pss_cons (ps_set (i := 3) sc_ShapeReader_take.nd rfl (by first | exact Or.inl rfl | exact Or.inr rfl) (pe_words (pe_ix ix_kdict (pe_gref T.g_FORMS) (pv 1) (fun _ _ => rfl))))
    (pss_cons (ps_if (pt_cmpR op_ne (pe_callB call_len_seq (by rfl) T.f_len PySem.boot_len (pa_cons (pv 2) pa_nil)) (pe_callB call_len_seq (by rfl) T.f_len PySem.boot_len (pa_cons (pv 3) pa_nil)) (nomark _))
      (pss_one ps_never)
      pss_nil)
    (pss_cons (ps_for PassesOwn.never rfl (pi_enum (by rfl) T.f_enumerate (pa_cons (pv 3) pa_nil)) (pg_tup rfl (pgs_cons (pg_name (i := 4) sc_ShapeReader_take.nd rfl (by first | exact Or.inl rfl | exact Or.inr rfl)) (pgs_cons (pg_name (i := 5) sc_ShapeReader_take.nd rfl (by first | exact Or.inl rfl | exact Or.inr rfl)) pgs_nil)))
      (pss_one (ps_if (pt_not (pt_val (pe_cl F_has_sort (hr.mono (by omega)) (pa_cons (pe_ix ix_list (pv 2) (pv 4) (fun _ _ => rfl)) (pa_cons (pv 5) pa_nil)))))
        (pss_one ps_never)
        pss_nil)))
    (pss_cons (ps_fldaug (pv 0) pe_int in_add)
    (pss_one (ps_ret (pe_lcs (pe_lc (own := [("part", 6)]) (g := gName 6) (tt := tYes) rfl sc_ShapeReader_take.nd (pi_seq (pv 2)) (blkOk_by (own := [("part", 6)]) (N := N_ShapeReader_take) (sc := defScope s_ShapeReader_take) (by decide +kernel)) (fun _ _ _ _ _ => (pg_name (i := 6) sc_ShapeReader_take.nd rfl (by first | exact Or.inl rfl | exact Or.inr rfl))) (fun _ _ _ _ _ => pts_nil) (fun _ _ _ _ _ => (pe_cl F_parsed (hr.mono (by omega)) (pa_cons (pv 6) pa_nil))))))))))))), ?_⟩
  obtain ⟨dx, ho⟩ := rd.obj
  obtain ⟨vs, h1, h2⟩ := rd.ls
  have hS : SqL K H La vs := SqL.of (rd.sub _ _ h1)
  obtain ⟨g1, g2, g3⟩ := drop_at hd
  obtain ⟨v, hv, a, rfl, ha⟩ := paired_at' h2 g1
  have hA : SqL K H a _ := SqL.of (rd.sub _ _ ha)
  refine sq ⟨_, rfl, self, dx, _, rfl, ho, rdf_next, F, self, La, lines, k, x, rfl, rd, .inr ⟨_, _, hd⟩, _, rfl, rfl, _, rfl, ?_⟩
  rw [show (!decide (V.str x = V.str x)) = false by rw [decide_eq_true rfl]; rfl]
  refine iteF (sq ?_)
  refine ⟨_, rfl, self, _, dx, _, _, rfl, ho, T.c_ShapeReader, T.n_ShapeReader_lines, rdf_lines, _, rfl, self, _, dx, _, _, rfl, ho, T.c_ShapeReader, T.n_ShapeReader_at, rdf_at, La, _, _, _, rfl, rfl, hS, at_nat_ rfl hv, _, rfl, a, _, rfl, hA, fun wl hwl => ?_⟩
  rw [show cutV (((x :: ps.map txt) : List Str).map V.str) (some 1) none = (ps.map txt).map V.str from cut1 _ _]
  have e1 := (Eff.refl rd.sub (M := [])).put hwl (o := .lst ((ps.map txt).map V.str))
  have pl := paired_len hform
  refine sq ⟨_, rfl, _, _, _, rfl, rfl, forms_in T hf, ⟨_, rfl⟩, _, rfl, rfl, ?_, fun sl hsl => ?_⟩
  · exact Nat.le_trans (Nat.add_le_add_right (form_len _ hf) 2) (by decide)
  have e2 := e1.put hsl (o := .lst ((Txt.words form).map V.str))
  have hW : SqL K (upd (upd H wl (.lst ((ps.map txt).map V.str))) sl (.lst ((Txt.words form).map V.str))) wl _ := SqL.of ((upd_ne (ne_of_none upd_same hsl)).trans upd_same)
  have hSl : SqL K (upd (upd H wl (.lst ((ps.map txt).map V.str))) sl (.lst ((Txt.words form).map V.str))) sl _ := SqL.of upd_same
  have hWF : (upd (upd F wl (.lst ((ps.map txt).map V.str))) sl (.lst ((Txt.words form).map V.str))) wl = some (.lst ((ps.map txt).map V.str)) := (upd_ne (ne_of_none (upd_same (H := H)) hsl)).trans upd_same
  generalize (upd (upd H wl (.lst ((ps.map txt).map V.str))) sl (.lst ((Txt.words form).map V.str))) = H2 at *
  generalize (upd (upd F wl (.lst ((ps.map txt).map V.str))) sl (.lst ((Txt.words form).map V.str))) = F2 at *
  refine sq ⟨_, rfl, wl, _, rfl, .inl hW, _, rfl, sl, _, rfl, .inl hSl, rfl, _, rfl, ?_⟩
  rw [show (!decide (V.int (((ps.map txt).map V.str).length : Nat) = V.int (((Txt.words form).map V.str).length : Nat))) = false by
    rw [List.length_map, List.length_map, List.length_map, pl, decide_eq_true rfl]
    rfl]
  refine iteF (sq ?_)
  refine ⟨_, rfl, sl, _, rfl, hSl, for_enum (K := K) (a := sl) (xs := (Txt.words form).map V.str) (fun j σ H' => ∃ v4 v5 v6, σ = [some (.ref self), some (.str x), some (.ref wl), some (.ref sl), v4, v5, v6] ∧ Same H2 H') ⟨_, _, _, rfl, Same.refl _⟩ (fun j σ H' _ ⟨_, _, _, _, s⟩ => sqL_same s hSl) ?_ ?_⟩
  · rintro j y σ H3 T3 hj ⟨v4, v5, v6, rfl, s3⟩ hT3
    rw [List.getElem?_map] at hj
    cases hs : (Txt.words form)[j]? with
    | none => rw [hs] at hj; cases hj
    | some so =>
      rw [hs] at hj
      cases hj
      obtain ⟨pv, hpv, ⟨hso, hlen, _⟩, _⟩ := paired_at' hform hs
      have s4 := s3.trans (same_new hT3 (.tup [.int (j : Nat), .str so]))
      refine ⟨T3, _, rfl, SqT.of upd_same, rfl, _, _, rfl, _, _, rfl, rfl, ?_⟩
      refine ⟨_, rfl, _, rfl, wl, _, _, _, rfl, rfl, sqL_same s4 hW, at_nat_ (v := V.str (txt pv)) rfl (by rw [List.getElem?_map, List.getElem?_map, hpv]; rfl), _, rfl, txt pv, so, rfl, by omega, fun H4 s5 => ?_⟩
      rw [hso]
      exact ⟨_, rfl, iteF ⟨_, _, _, rfl, s4.trans s5⟩⟩
  · rintro σ H3 ⟨v4, v5, v6, rfl, s3⟩
    have e3 := e2.pure (Eff.of_same e2.sub s3)
    have rd3 := rd.pure e3
    obtain ⟨dx3, ho3⟩ := rd3.obj
    refine sq ⟨_, rfl, self, _, dx3, _, _, rfl, ho3, T.c_ShapeReader, T.n_ShapeReader_at, rdf_at, _, _, rfl, rfl, dx3, _, ho3, (by show 2 < 1000; decide), ?_⟩
    rw [rdf_put]
    have rd4 := rd3.step (dx := dx3) g3
    have e4 : Eff [self] F H F2 (upd H3 self (.ins (CR K) dx3 (rdf La (k + 1)))) := (e3.more (M' := [self]) (by intro m hm; cases hm)).wr rd3.fs (.inl (by simp))
    have hW4 : SqL K (upd H3 self (.ins (CR K) dx3 (rdf La (k + 1)))) wl _ := SqL.of (e4.sub _ _ hWF)
    refine ⟨_, rfl, wl, rfl, lcp (.inl hW4) (by rw [List.length_map, List.length_map]; omega) e4.sub (fun i y _ => ∃ v, ps[i]? = some v ∧ y = v) (fun _ _ _ _ _ h => h) (fun i v F' H' hv ef kk hk => ?_) (fun D ys F5 H5 nD ef hD hl2 hR => ?_)⟩
    · rw [List.getElem?_map, List.getElem?_map] at hv
      cases hw : ps[i]? with
      | none => rw [hw] at hv; cases hv
      | some pv =>
        rw [hw] at hv
        cases hv
        obtain ⟨so, _, ⟨_, hlen, hint⟩, hpar⟩ := paired_at hform hw
        refine ⟨rfl, _, rfl, txt pv, rfl, by omega, hint, fun H6 s6 => ?_⟩
        rw [hpar]
        exact hk _ F' _ (Eff.of_same ef.sub s6) ⟨pv, hw, rfl⟩
    · have ey : ys = ps := by
        have := list_of_at (l := ps) (fun v => v) (by rw [hl2, List.length_map, List.length_map]) fun i y hi => hR i y hi
        rw [this]
        exact List.map_id' _
      subst ey
      exact q D F5 H5 (e4.pure ef) (rd4.pure ef) hD
end
end K6
set_option Elab.async false
set_option linter.all false
set_option maxRecDepth 100000
set_option maxHeartbeats 4000000
namespace K6
open PySem PySem.Spec PyProof.Rows L2
theorem no_parts {w : World} {K : PySem.W.Frag} {mg : Str → Option Value} (T : Tx w K mg) {x : Str} (h : x ∈ noParts) : PySem.W.nsIn K (He.ga K "PARTS") x = some none := T.pOut x h
theorem RdAt.frz {C : Addr} {F H : Hp} {self La p : Addr} {lines : List (List Str)} {k : Nat} {o : HO} (r : RdAt C F H self La lines k) (h1 : p ≠ self) (hF : F p = none) (hH : H p = some o) : RdAt C (upd F p o) H self La lines k := by
  obtain ⟨vs, h2, h3⟩ := r.ls
  have s := same_new hF o
  refine ⟨fun b u h => ?_, r.obj, (upd_ne h1.symm).trans r.fs, ⟨vs, s _ _ h2, paired_mono (fun _ _ ⟨a, h3, h4⟩ => ⟨a, h3, s _ _ h4⟩) h3⟩, r.le, r.sz, r.wd⟩
  by_cases eb : b = p
  · subst eb
    rw [upd_same] at h
    rw [hH, h]
  · rw [upd_ne eb] at h
    exact r.sub _ _ h
section
variable {P : Program} {w : World} {K : PySem.W.Frag} {mg : Str → Option Value} {base : Heap} {f : Addr} {fd : FuncData}
def spTkItems (K : PySem.W.Frag) (d : Nat) : Sp := fun vs H Q _ => ∃ (F : Hp) (self La : Addr) (lines : List (List Str)) (k : Nat) (dp : Int) (l : List (Itm d)) (x : Str) (rest : List (List Str)), vs = [.ref self, .int dp] ∧ RdAt (CR K) F H self La lines k ∧ lines.drop k = l.flatMap (lnw d) ++ rest ∧ NextIs rest x ∧ x ∈ noParts ∧
  1 ≤ d ∧ dp + d = 4 ∧ (∀ y ∈ l, OkN d y) ∧ l.length ≤ 12 ∧ ∀ v F' H', Eff [self] F H F' H' → RdAt (CR K) F' H' self La lines (k + (l.flatMap (lnw d)).length) → IsIts false F' d v l → Q v H'
def spTkItem (K : PySem.W.Frag) (d : Nat) : Sp := fun vs H Q _ => ∃ (F : Hp) (self La : Addr) (lines : List (List Str)) (k : Nat) (dp : Int) (x : Itm (d + 1)) (rest : List (List Str)), vs = [.ref self, .int dp] ∧ RdAt (CR K) F H self La lines k ∧ lines.drop k = lnw (d + 1) x ++ rest ∧
  dp + (d + 1) = 4 ∧ OkN (d + 1) x ∧ ∀ v F' H', Eff [self] F H F' H' → RdAt (CR K) F' H' self La lines (k + (lnw (d + 1) x).length) → IsIt false F' (d + 1) v x → Q v H'
theorem ln_head {d : Nat} (x : Itm (d + 1)) : ∃ ws r, lnw (d + 1) x = (ItF.kind x :: ws) :: r := by
  match x with
  | .pl p => exact ⟨p.vs.tail.map txt, [], by cases p <;> rfl⟩
  | .rep n u b => exact ⟨_, _, rfl⟩
  | .eit n bs => exact ⟨_, _, rfl⟩
  | .swi n t cs => exact ⟨_, _, rfl⟩
theorem drop_more {α : Type} {l a b : List α} {k : Nat} (h : l.drop k = a ++ b) : l.drop (k + a.length) = b := by
  rw [← List.drop_drop, h]
  exact List.drop_left
abbrev s_ShapeReader_take_items : Stmt := inClass (top 42) 3
abbrev N_ShapeReader_take_items : List Str := ["self", "depth", "items"]
theorem sc_ShapeReader_take_items : FnScope N_ShapeReader_take_items ["self", "depth"] (defScope s_ShapeReader_take_items) := ⟨rfl, rfl, rfl, by decide +kernel, rfl, by decide +kernel, by decide +kernel⟩
theorem b_ShapeReader_take_items (kV doc pm : Value) (an : Option Addr) (cdv ct : Value) (us : List Value) (hl : us.length = (["self", "depth"] : List Str).length) : bindArgs (PySem.W.fnOf "take_items" "ShapeReader.take_items" (defArgs s_ShapeReader_take_items) (defBody s_ShapeReader_take_items) (defScope s_ShapeReader_take_items) .none kV doc pm an cdv ct) ⟨us, []⟩ = pure ((["self", "depth"] : List Str).zip us) := match us, hl with | [_, _], _ => rfl
theorem ok_take_items {d k : Nat} (F : Fun K "take_items" "ShapeReader.take_items" s_ShapeReader_take_items f fd) (T : Tx w K mg) (F_next_word : Mc P w K mg base 1 (CR K) "next_word" (spNext K)) (F_take_item : Mc P w K mg base k (CR K) "take_item" (spTkItem K d)) (hk1 : 1 ≤ k) : FnR P w K mg base CX0 (k + 1) f (spTkItems K (d + 1)) := by
  refine raw_of F sc_ShapeReader_take_items b_ShapeReader_take_items (fun vs H Q E h => by obtain ⟨_, _, _, _, _, _, _, _, _, rfl, _⟩ := h; rfl) (fun cdv A outer s H vs Q E hr h => ?_)
  obtain ⟨F, self, La, lines, k, dp, l, x, rest, rfl, rd, hd, hnx, hnp, d1, dp4, ok, l12, q⟩ := h
  refine ⟨_, (pss_cons (ps_set (i := 2) sc_ShapeReader_take_items.nd rfl (by first | exact Or.inl rfl | exact Or.inr rfl) (pe_lst pa_nil))
    (pss_cons (ps_while PassesOwn.never (pt_cmpR (op_inP T.dP) (pe_mt0 (pv 0) T.c_ShapeReader F_next_word (hr.mono (by omega))) (pe_gref T.g_PARTS) (by rfl))
      (pss_one (ps_expr (pe_bm PySem.F.plainAttrs_list PySem.F.slot_list_append PySem.F.type_list_append mt_append (pv 2) (pa_cons (pe_mt (pv 0) T.c_ShapeReader F_take_item (hr.mono (by omega)) (pa_cons (pv 1) pa_nil)) pa_nil)))))
    (pss_one (ps_ret (pv 2))))), ?_⟩
  obtain ⟨dx, ho⟩ := rd.obj
  refine sq ⟨Nat.zero_le _, fun il hil => ?_⟩
  have ne : il ≠ self := (ne_of_none ho hil).symm
  have fil : F il = none := rd.sub.free hil
  refine sq ⟨fun m σ H' => ∃ i, i + m = l.length ∧ ∃ F' ys, σ = [some (.ref self), some (.int dp), some (.ref il)] ∧ Eff [self] F H F' H' ∧ F' il = none ∧ H' il = some (.lst ys) ∧ Paired (IsIt false F' (d + 1)) ys (l.take i) ∧ RdAt (CR K) F' H' self La lines (k + ((l.take i).flatMap (lnw (d + 1))).length), ⟨l.length, 0, Nat.zero_add _, F, [], rfl, (Eff.refl rd.sub).loc hil, fil, upd_same, .nil, rd.other ne fil⟩, ?_⟩
  rintro m σ H1 ⟨i, him, F1, ys, rfl, e1, fl1, hl1, hps, rd1⟩
  have hdr : lines.drop (k + ((l.take i).flatMap (lnw (d + 1))).length) = (l.drop i).flatMap (lnw (d + 1)) ++ rest := by
    refine drop_more (a := (l.take i).flatMap (lnw (d + 1))) ?_
    rw [hd, ← List.append_assoc, ← List.flatMap_append, List.take_append_drop]
  obtain ⟨dx1, ho1⟩ := rd1.obj
  cases m with
  | zero =>
    have i0 : i = l.length := by omega
    subst i0
    rw [List.drop_length] at hdr
    rw [List.take_length] at hps rd1
    have rd2 := rd1
    rw [List.take_length] at hdr
    refine ⟨_, rfl, self, dx1, _, rfl, ho1, rdf_next, F1, self, La, lines, _, x, rfl, rd1, (by rw [hdr]; exact hnx), x, none, rfl, rfl, no_parts T hnp, _, rfl, iteF ?_⟩
    refine ⟨_, rfl, q (.ref il) (upd F1 il (.lst ys)) H1 (e1.frz hil hl1) ?_ ⟨il, ys, rfl, upd_same, ?_, by omega⟩⟩
    · exact rd1.frz ne fl1 hl1
    · exact paired_mono (fun _ _ h => isIt_mono (same_new fl1 _) (d + 1) _ _ h) hps
  | succ m =>
    have hi : i < l.length := by omega
    have hx : l[i]? = some l[i] := List.getElem?_eq_getElem hi
    generalize l[i] = y at hx
    obtain ⟨r, hlr, htk⟩ := cut_at hx
    have hdr2 : lines.drop (k + ((l.take i).flatMap (lnw (d + 1))).length) = lnw (d + 1) y ++ (r.flatMap (lnw (d + 1)) ++ rest) := by
      have z : l.drop i = y :: r := by
        rw [List.drop_eq_getElem_cons hi]
        have z1 := (List.getElem?_eq_some_iff.mp hx).2
        rw [z1]
        refine congrArg _ ?_
        have z2 : l = (l.take i ++ [y]) ++ r := by rw [List.append_assoc]; exact hlr
        rw [← htk] at z2
        have z3 := List.drop_left (l₁ := l.take (i + 1)) (l₂ := r)
        rw [← z2, List.length_take, Nat.min_eq_left (by omega)] at z3
        exact z3
      rw [hdr, z, List.flatMap_cons, List.append_assoc]
    obtain ⟨ws, r2, hh⟩ := ln_head y
    obtain ⟨pr, hp1, _⟩ := parts_in T (part_of y .non)
    refine ⟨_, rfl, self, dx1, _, rfl, ho1, rdf_next, F1, self, La, lines, _, ItF.kind y, rfl, rd1, (by rw [hdr2, hh]; exact .inr ⟨_, _, rfl⟩), ItF.kind y, some pr, rfl, rfl, hp1, _, rfl, iteT ?_⟩
    refine ⟨fun σ H' => ∃ F' ys, σ = [some (.ref self), some (.int dp), some (.ref il)] ∧ Eff [self] F H F' H' ∧ F' il = none ∧ H' il = some (.lst ys) ∧ Paired (IsIt false F' (d + 1)) ys (l.take (i + 1)) ∧ RdAt (CR K) F' H' self La lines (k + ((l.take (i + 1)).flatMap (lnw (d + 1))).length), fun σ' H' h => ⟨m, Nat.lt_succ_self _, i + 1, by omega, h⟩, ?_⟩
    refine ⟨_, rfl, .inl ⟨rfl, _, SqL.of hl1⟩, _, rfl, self, dx1, _, rfl, ho1, rdf_item, _, rfl, F1, self, La, lines, _, dp, y, _, rfl, rd1, hdr2, by omega, ok y (List.mem_of_getElem? hx), fun v F2 H2 e2 rd2 hv2 => ?_⟩
    have hl2 : H2 il = _ := e2.keep _ _ hl1 (by simpa using ne)
    have fl2 : F2 il = none := e2.fresh _ fl1 (by rw [hl1]; intro z; cases z)
    have yl := paired_len hps
    refine ⟨il, _, _, rfl, rfl, hl2, Nat.lt_of_le_of_lt (show ys.length ≤ 1000 by rw [yl, List.length_take]; omega) (by decide), ?_⟩
    have e12 : Eff [self] F H F2 H2 := e1.call e2 (fun m hm => .inl hm)
    refine ⟨F2, ys ++ [v], rfl, e12.wr fl2 (.inr hil), fl2, upd_same, ?_, ?_⟩
    · rw [htk]
      exact Paired.snoc (paired_mono (fun _ _ h => isIt_mono e2.same (d + 1) _ _ h) hps) hv2
    · rw [htk, List.flatMap_append, List.flatMap_singleton, List.length_append, ← Nat.add_assoc]
      exact rd2.other ne fl2
def spTkBlocks (K : PySem.W.Frag) (d : Nat) : Sp := fun vs H Q _ => ∃ (F : Hp) (self La : Addr) (lines : List (List Str)) (k : Nat) (dp : Int) (rest : List (List Str)), RdAt (CR K) F H self La lines k ∧ 1 ≤ d ∧ dp + d = 4 ∧
  ((∃ bs : List (List (Itm d)), vs = [.ref self, .str "either", .int dp] ∧ lines.drop k = (bs.flatMap fun b => (["choice"] : List Str) :: b.flatMap (lnw d)) ++ ((["end"] : List Str) :: rest) ∧ bs.length ≤ 8 ∧ (∀ b ∈ bs, b.length ≤ 12 ∧ ∀ y ∈ b, OkN d y) ∧
    ∀ v F' H', Eff [self] F H F' H' → RdAt (CR K) F' H' self La lines (k + (bs.flatMap fun b => (["choice"] : List Str) :: b.flatMap (lnw d)).length) → IsSeq false F' (IsSeq false F' (IsIt false F' d)) v bs → Q v H') ∨
  ∃ cs : List (Int × List (Itm d)), vs = [.ref self, .str "switch", .int dp] ∧ lines.drop k = (cs.flatMap fun c => (["case", txt (.int c.1)] : List Str) :: c.2.flatMap (lnw d)) ++ ((["end"] : List Str) :: rest) ∧ cs.length ≤ 8 ∧ (∀ c ∈ cs, (0 ≤ c.1 ∧ c.1 ≤ 65535) ∧ c.2.length ≤ 12 ∧ ∀ y ∈ c.2, OkN d y) ∧
    ∀ v F' H', Eff [self] F H F' H' → RdAt (CR K) F' H' self La lines (k + (cs.flatMap fun c => (["case", txt (.int c.1)] : List Str) :: c.2.flatMap (lnw d)).length) → IsSeq false F' (fun v (c : Int × List (Itm d)) => ∃ e w', v = .ref e ∧ F' e = some (.tup [.int c.1, w']) ∧ IsSeq false F' (IsIt false F' d) w' c.2) v cs → Q v H')
theorem r_vY {σ : L2.St} {H : Hp} {i : Nat} {lit : Str} {tA tB : TS} {D : Ends} (hσ : σ[i]? = some (some (.str lit))) (q : tA D σ H) : tIfS (tTest (tOp rEq (tVar i) (tC (.str lit)))) tA tB D σ H := ⟨_, hσ, rfl, _, rfl, by rw [decide_eq_true rfl]; exact iteT q⟩
theorem r_vN {σ : L2.St} {H : Hp} {i : Nat} {z lit : Str} {tA tB : TS} {D : Ends} (hσ : σ[i]? = some (some (.str z))) (e : z ≠ lit) (q : tB D σ H) : tIfS (tTest (tOp rEq (tVar i) (tC (.str lit)))) tA tB D σ H := ⟨_, hσ, rfl, _, rfl, by rw [decide_eq_false (fun y => e (V.str.inj y))]; exact iteF q⟩
theorem not_in {K : PySem.W.Frag} {σ : L2.St} {H : Hp} {i : Nat} {z : Str} {tA tB : TS} {D : Ends} {ls : List Str} {t : TA} (ht : ∀ Q : List V → Hp → Prop, Q (ls.map V.str) H → t σ H Q) (hσ : σ[i]? = some (some (.str z))) (hz : ls.length ≤ 1000)
    (q : ∀ H', Same H H' → if z ∈ ls then tB D σ H' else tA D σ H') : tIfS (tTest (tOp (rIn K true) (tVar i) (tTup t))) tA tB D σ H := by
  refine ⟨_, hσ, ht _ ⟨by rw [List.length_map]; exact small hz, fun p np => ⟨p, _, rfl, .inr (SqT.of upd_same), rfl, flat_str ls, _, rfl, ?_⟩⟩⟩
  have z1 := q _ (same_new np (.tup (ls.map V.str)))
  show if (!inV _ _) = true then _ else _
  rw [inV_str]
  by_cases hm : z ∈ ls
  · rw [if_pos hm] at z1
    rw [decide_eq_true hm]
    exact iteF z1
  · rw [if_neg hm] at z1
    rw [decide_eq_false hm]
    exact iteT z1
abbrev s_ShapeReader_take_item : Stmt := inClass (top 42) 4
abbrev N_ShapeReader_take_item : List Str := ["self", "depth", "kind", "line", "parts", "inner"]
theorem sc_ShapeReader_take_item : FnScope N_ShapeReader_take_item ["self", "depth"] (defScope s_ShapeReader_take_item) := ⟨rfl, rfl, rfl, by decide +kernel, rfl, by decide +kernel, by decide +kernel⟩
theorem b_ShapeReader_take_item (kV doc pm : Value) (an : Option Addr) (cdv ct : Value) (us : List Value) (hl : us.length = (["self", "depth"] : List Str).length) : bindArgs (PySem.W.fnOf "take_item" "ShapeReader.take_item" (defArgs s_ShapeReader_take_item) (defBody s_ShapeReader_take_item) (defScope s_ShapeReader_take_item) .none kV doc pm an cdv ct) ⟨us, []⟩ = pure ((["self", "depth"] : List Str).zip us) := match us, hl with | [_, _], _ => rfl
theorem ok_take_item {d k : Nat} (F : Fun K "take_item" "ShapeReader.take_item" s_ShapeReader_take_item f fd) (T : Tx w K mg) (F_next_word : Mc P w K mg base 1 (CR K) "next_word" (spNext K)) (F_take : Mc P w K mg base 3 (CR K) "take" (spTake K)) (F_take_items : Mc P w K mg base k (CR K) "take_items" (spTkItems K d)) (F_take_blocks : Mc P w K mg base k (CR K) "take_blocks" (spTkBlocks K d)) (hk3 : 3 ≤ k) : FnR P w K mg base CX0 (k + 1) f (spTkItem K d) := by
  refine raw_of F sc_ShapeReader_take_item b_ShapeReader_take_item (fun vs H Q E h => by obtain ⟨_, _, _, _, _, _, _, _, rfl, _⟩ := h; rfl) (fun cdv A outer s H vs Q E hr h => ?_)
  obtain ⟨F, self, La, lines, k, dp, x, rest, rfl, rd, hd, dp4, okx, q⟩ := h
  refine ⟨_, (pss_cons (ps_set (i := 2) sc_ShapeReader_take_item.nd rfl (by first | exact Or.inl rfl | exact Or.inr rfl) (pe_mt0 (pv 0) T.c_ShapeReader F_next_word (hr.mono (by omega))))
    (pss_cons (ps_set (i := 3) sc_ShapeReader_take_item.nd rfl (by first | exact Or.inl rfl | exact Or.inr rfl) (pe_op op_add (pe_fld (pv 0) (by rfl)) pe_int))
    (pss_cons (ps_set (i := 4) sc_ShapeReader_take_item.nd rfl (by first | exact Or.inl rfl | exact Or.inr rfl) (pe_mt (pv 0) T.c_ShapeReader F_take (hr.mono (by omega)) (pa_cons (pv 2) pa_nil)))
    (pss_cons (ps_if (pt_cmpR op_notIn_seq (pv 2) (pe_tup (pa_cons pe_str (pa_cons pe_str (pa_cons pe_str pa_nil)))) (by rfl))
      (pss_one (ps_ret (pe_tup (pa_cons (pv 2) (StX.pa_star (pv 4) pa_nil)))))
      pss_nil)
    (pss_cons (ps_if (pt_cmpR op_eq (pv 1) (pe_gint T.i_MOST_DEPTH) (nomark _))
      (pss_one ps_never)
      pss_nil)
    (pss_cons (ps_if (pt_cmpR op_eq (pv 2) pe_str (nomark _))
      (pss_one (ps_set (i := 5) sc_ShapeReader_take_item.nd rfl (by first | exact Or.inl rfl | exact Or.inr rfl) (pe_mt (pv 0) T.c_ShapeReader F_take_items (hr.mono (by omega)) (pa_cons (pe_op op_add (pv 1) pe_int) pa_nil))))
      (pss_one (ps_set (i := 5) sc_ShapeReader_take_item.nd rfl (by first | exact Or.inl rfl | exact Or.inr rfl) (pe_mt (pv 0) T.c_ShapeReader F_take_blocks (hr.mono (by omega)) (pa_cons (pv 2) (pa_cons (pe_op op_add (pv 1) pe_int) pa_nil))))))
    (pss_cons (ps_expr (pe_mt (pv 0) T.c_ShapeReader F_take (hr.mono (by omega)) (pa_cons pe_str pa_nil)))
    (pss_one (ps_ret (pe_tup (pa_cons (pv 2) (StX.pa_star (pv 4) (pa_cons (pv 5) pa_nil))))))))))))), ?_⟩
  obtain ⟨dx, ho⟩ := rd.obj
  obtain ⟨ws, r2, hh⟩ := ln_head x
  refine sq ⟨_, rfl, self, dx, _, rfl, ho, rdf_next, F, self, La, lines, _, ItF.kind x, rfl, rd, (by rw [hd, hh]; exact .inr ⟨_, _, rfl⟩), ?_⟩
  refine sq ⟨_, rfl, self, _, dx, _, _, rfl, ho, T.c_ShapeReader, T.n_ShapeReader_at, rdf_at, _, _, rfl, rfl, ?_⟩
  match x, okx, hd, q with
  | .pl p, okx, hd, q =>
    obtain ⟨vis, hvis, hok⟩ := okx
    have vq : p.vs.map txt = p.kind :: (.str p.name :: p.vs.drop 2 : List V).map txt := by
      conv => lhs; rw [p.vs_eq]
      rfl
    have hd1 : lines.drop k = (p.kind :: (.str p.name :: p.vs.drop 2 : List V).map txt) :: rest := by
      rw [hd, ← vq]
      rfl
    refine sq ⟨_, rfl, self, dx, _, rfl, ho, rdf_take, _, rfl, F, self, La, lines, k, _, _, rest, rfl, rd, hd1, fo_plain hvis hok.1 hok.2, fun a F1 H1 e1 rd1 ha => ?_⟩
    refine sq (not_in (ls := ["repeat", "either", "switch"]) (fun Q h => h) rfl (by decide) fun H2 s2 => ?_)
    have hn : p.kind ∉ (["repeat", "either", "switch"] : List Str) := by
      simp only [List.mem_cons, List.not_mem_nil, or_false, not_or]
      exact ⟨pk_rep p, pk_eit p, pk_swi p⟩
    have e2 := e1.pure (Eff.of_same e1.sub s2)
    have rd2 := rd1.pure (Eff.of_same e1.sub s2)
    show if p.kind ∈ (["repeat", "either", "switch"] : List Str) then _ else _
    rw [if_neg hn]
    have ha2 : SqL K H2 a _ := SqL.of (e2.sub _ _ ha)
    refine ⟨_, rfl, _, rfl, a, _, rfl, .inr ha2, small (by cases p <;> simp [Plain.vs]), fun p2 np2 => ?_⟩
    have e3 := e2.put np2 (o := .tup (V.str p.kind :: ((.str p.name :: p.vs.drop 2 : List V) ++ [])))
    have rd3 := rd2.pure ((Eff.refl e2.sub).put np2 (o := .tup (V.str p.kind :: ((.str p.name :: p.vs.drop 2 : List V) ++ []))))
    refine q _ _ _ e3 rd3 ⟨p2, rfl, ?_⟩
    show _ = some (HO.tup p.vs)
    rw [upd_same, List.append_nil, ← p.vs_eq]
  | .rep n u b, okx, hd, q =>
    have okb := okN_blocks okx
    have okg := okx.a
    obtain ⟨vis, hvis, hok⟩ := okx
    have d1 : 1 ≤ d := hok.2.1
    have hd1 : lines.drop k = (("repeat" : Str) :: ([.str n, u.v] : List V).map txt) :: (b.flatMap (lnw d) ++ ((["end"] : List Str) :: rest)) := by
      rw [hd]
      show _ :: ((b.flatMap (lnw d) ++ [(["end"] : List Str)]) ++ rest) = _
      rw [List.append_assoc]
      rfl
    refine sq ⟨_, rfl, self, dx, _, rfl, ho, rdf_take, _, rfl, F, self, La, lines, k, _, _, _, rfl, rd, hd1, fo_repeat hvis hok.1 (by decide) hok.2.2.1, fun a F1 H1 e1 rd1 ha => ?_⟩
    refine sq (not_in (z := "repeat") (ls := ["repeat", "either", "switch"]) (fun Q h => h) rfl (by decide) fun H2 s2 => ?_)
    have e2 := e1.pure (Eff.of_same e1.sub s2)
    have rd2 := rd1.pure (Eff.of_same e1.sub s2)
    rw [if_pos (by decide +kernel)]
    have ndp : dp ≠ 3 := by omega
    refine sq ⟨_, rfl, rfl, _, rfl, ?_⟩
    rw [show decide (V.int dp = V.int 3) = false from decide_eq_false fun z => ndp (V.int.inj z)]
    refine iteF (sq ?_)
    have hd2 := (drop_at hd1).2.1
    obtain ⟨dx2, ho2⟩ := rd2.obj
    dsimp only
    refine sq (r_vY rfl ?_)
    refine ⟨_, rfl, self, dx2, _, rfl, ho2, rdf_items, _, rfl, _, _, rfl, rfl, F1, self, La, lines, k + 1, dp + 1, b, "end", _, rfl, rd2, hd2, .inr ⟨[], rest, rfl⟩, by decide +kernel, d1, by omega, okb b (List.mem_singleton.mpr rfl), hok.2.2.2.2.1, fun v F3 H3 e3 rd3 hv3 => ?_⟩
    dsimp only
    have e23 : Eff [self] F H F3 H3 := e2.call e3 (fun m hm => .inl hm)
    obtain ⟨dx3, ho3⟩ := rd3.obj
    have hd3 := drop_more hd2
    refine sq ⟨_, rfl, self, dx3, _, rfl, ho3, rdf_take, F3, self, La, lines, _, "end", [], rest, rfl, rd3, hd3, fo_end, fun a4 F4 H4 e4 rd4 ha4 => ?_⟩
    have e34 : Eff [self] F H F4 H4 := e23.call e4 (fun m hm => .inl hm)
    have ha2 : SqL K H4 a _ := SqL.of (e4.sub _ _ (e4.same _ _ (e3.same _ _ ha)))
    refine ⟨_, rfl, _, rfl, a, _, rfl, .inr ha2, _, rfl, (by first | exact small (by simp) | (show 3 ≤ sizeLine; decide) | (show 4 ≤ sizeLine; decide)), fun p2 np2 => ?_⟩
    have e5 := e34.put np2 (o := .tup (V.str "repeat" :: (([.str n, u.v] : List V) ++ [v])))
    have rd5 := rd4.pure ((Eff.refl e34.sub).put np2 (o := .tup (V.str "repeat" :: (([.str n, u.v] : List V) ++ [v]))))
    refine q _ _ _ e5 ?_ ⟨p2, rfl, v, upd_same, isIts_mono (e4.same.trans (same_new (e34.sub.free np2) _)) hv3⟩
    have z : k + (((["repeat", n, txt u.v] : List Str) :: (b.flatMap (lnw d) ++ [(["end"] : List Str)]) : List (List Str))).length = k + 1 + (b.flatMap (lnw d)).length + 1 := by
      rw [List.length_cons, List.length_append, List.length_singleton]
      omega
    refine (z ▸ rd5 : RdAt (CR K) _ _ self La lines (k + (((["repeat", n, txt u.v] : List Str) :: (b.flatMap (lnw d) ++ [(["end"] : List Str)]) : List (List Str))).length))
  | .eit n bs, okx, hd, q =>
    have okb := okN_blocks okx
    have okg := okx.a
    obtain ⟨vis, hvis, hok⟩ := okx
    have d1 : 1 ≤ d := hok.2.1
    have hd1 : lines.drop k = (("either" : Str) :: ([.str n] : List V).map txt) :: ((bs.flatMap fun b => (["choice"] : List Str) :: b.flatMap (lnw d)) ++ ((["end"] : List Str) :: rest)) := by
      rw [hd]
      show _ :: (((bs.flatMap fun b => (["choice"] : List Str) :: b.flatMap (lnw d)) ++ [(["end"] : List Str)]) ++ rest) = _
      rw [List.append_assoc]
      rfl
    refine sq ⟨_, rfl, self, dx, _, rfl, ho, rdf_take, _, rfl, F, self, La, lines, k, _, _, _, rfl, rd, hd1, fo_either hok.1, fun a F1 H1 e1 rd1 ha => ?_⟩
    refine sq (not_in (z := "either") (ls := ["repeat", "either", "switch"]) (fun Q h => h) rfl (by decide) fun H2 s2 => ?_)
    have e2 := e1.pure (Eff.of_same e1.sub s2)
    have rd2 := rd1.pure (Eff.of_same e1.sub s2)
    rw [if_pos (by decide +kernel)]
    have ndp : dp ≠ 3 := by omega
    refine sq ⟨_, rfl, rfl, _, rfl, ?_⟩
    rw [show decide (V.int dp = V.int 3) = false from decide_eq_false fun z => ndp (V.int.inj z)]
    refine iteF (sq ?_)
    have hd2 := (drop_at hd1).2.1
    obtain ⟨dx2, ho2⟩ := rd2.obj
    dsimp only
    refine sq (r_vN (z := "either") rfl es1 ?_)
    refine ⟨_, rfl, self, dx2, _, rfl, ho2, rdf_blocks, _, rfl, _, rfl, _, _, rfl, rfl, F1, self, La, lines, k + 1, dp + 1, rest, rd2, d1, by omega, .inl ⟨bs, rfl, hd2, (by have : bs.length ≤ 4 := hok.2.2.2.1; omega), fun b hb => ⟨(okA_blocks okg b hb).1, okb b hb⟩, fun v F3 H3 e3 rd3 hv3 => ?_⟩⟩
    dsimp only
    have e23 : Eff [self] F H F3 H3 := e2.call e3 (fun m hm => .inl hm)
    obtain ⟨dx3, ho3⟩ := rd3.obj
    have hd3 := drop_more hd2
    refine sq ⟨_, rfl, self, dx3, _, rfl, ho3, rdf_take, F3, self, La, lines, _, "end", [], rest, rfl, rd3, hd3, fo_end, fun a4 F4 H4 e4 rd4 ha4 => ?_⟩
    have e34 : Eff [self] F H F4 H4 := e23.call e4 (fun m hm => .inl hm)
    have ha2 : SqL K H4 a _ := SqL.of (e4.sub _ _ (e4.same _ _ (e3.same _ _ ha)))
    refine ⟨_, rfl, _, rfl, a, _, rfl, .inr ha2, _, rfl, (by first | exact small (by simp) | (show 3 ≤ sizeLine; decide) | (show 4 ≤ sizeLine; decide)), fun p2 np2 => ?_⟩
    have e5 := e34.put np2 (o := .tup (V.str "either" :: (([.str n] : List V) ++ [v])))
    have rd5 := rd4.pure ((Eff.refl e34.sub).put np2 (o := .tup (V.str "either" :: (([.str n] : List V) ++ [v]))))
    refine q _ _ _ e5 ?_ ⟨p2, rfl, v, upd_same, isSeq_mono (e4.same.trans (same_new (e34.sub.free np2) _)) (fun _ _ h => isIts_mono (e4.same.trans (same_new (e34.sub.free np2) _)) h) hv3⟩
    have z : k + (((["either", n] : List Str) :: ((bs.flatMap fun b => (["choice"] : List Str) :: b.flatMap (lnw d)) ++ [(["end"] : List Str)]) : List (List Str))).length = k + 1 + ((bs.flatMap fun b => (["choice"] : List Str) :: b.flatMap (lnw d))).length + 1 := by
      rw [List.length_cons, List.length_append, List.length_singleton]
      omega
    refine (z ▸ rd5 : RdAt (CR K) _ _ self La lines (k + (((["either", n] : List Str) :: ((bs.flatMap fun b => (["choice"] : List Str) :: b.flatMap (lnw d)) ++ [(["end"] : List Str)]) : List (List Str))).length))
  | .swi n t cs, okx, hd, q =>
    have okb := okN_blocks okx
    have okg := okx.a
    obtain ⟨vis, hvis, hok⟩ := okx
    have d1 : 1 ≤ d := hok.2.1
    have wt : isNameB t = true := by
      obtain ⟨lo, hi, ht⟩ := hok.2.2.1
      exact hvis _ ht
    have hd1 : lines.drop k = (("switch" : Str) :: ([.str n, .str t] : List V).map txt) :: ((cs.flatMap fun c => (["case", txt (.int c.1)] : List Str) :: c.2.flatMap (lnw d)) ++ ((["end"] : List Str) :: rest)) := by
      rw [hd]
      show _ :: (((cs.flatMap fun c => (["case", txt (.int c.1)] : List Str) :: c.2.flatMap (lnw d)) ++ [(["end"] : List Str)]) ++ rest) = _
      rw [List.append_assoc]
      rfl
    refine sq ⟨_, rfl, self, dx, _, rfl, ho, rdf_take, _, rfl, F, self, La, lines, k, _, _, _, rfl, rd, hd1, fo_switch hok.1 wt, fun a F1 H1 e1 rd1 ha => ?_⟩
    refine sq (not_in (z := "switch") (ls := ["repeat", "either", "switch"]) (fun Q h => h) rfl (by decide) fun H2 s2 => ?_)
    have e2 := e1.pure (Eff.of_same e1.sub s2)
    have rd2 := rd1.pure (Eff.of_same e1.sub s2)
    rw [if_pos (by decide +kernel)]
    have ndp : dp ≠ 3 := by omega
    refine sq ⟨_, rfl, rfl, _, rfl, ?_⟩
    rw [show decide (V.int dp = V.int 3) = false from decide_eq_false fun z => ndp (V.int.inj z)]
    refine iteF (sq ?_)
    have hd2 := (drop_at hd1).2.1
    obtain ⟨dx2, ho2⟩ := rd2.obj
    dsimp only
    refine sq (r_vN (z := "switch") rfl es2 ?_)
    refine ⟨_, rfl, self, dx2, _, rfl, ho2, rdf_blocks, _, rfl, _, rfl, _, _, rfl, rfl, F1, self, La, lines, k + 1, dp + 1, rest, rd2, d1, by omega, .inr ⟨cs, rfl, hd2, hok.2.2.2.2.1, fun c hc => ⟨(hok.2.2.2.2.2.2 c hc).1, (hok.2.2.2.2.2.2 c hc).2.1, okb c.2 (List.mem_map.mpr ⟨c, hc, rfl⟩)⟩, fun v F3 H3 e3 rd3 hv3 => ?_⟩⟩
    dsimp only
    have e23 : Eff [self] F H F3 H3 := e2.call e3 (fun m hm => .inl hm)
    obtain ⟨dx3, ho3⟩ := rd3.obj
    have hd3 := drop_more hd2
    refine sq ⟨_, rfl, self, dx3, _, rfl, ho3, rdf_take, F3, self, La, lines, _, "end", [], rest, rfl, rd3, hd3, fo_end, fun a4 F4 H4 e4 rd4 ha4 => ?_⟩
    have e34 : Eff [self] F H F4 H4 := e23.call e4 (fun m hm => .inl hm)
    have ha2 : SqL K H4 a _ := SqL.of (e4.sub _ _ (e4.same _ _ (e3.same _ _ ha)))
    refine ⟨_, rfl, _, rfl, a, _, rfl, .inr ha2, _, rfl, (by first | exact small (by simp) | (show 3 ≤ sizeLine; decide) | (show 4 ≤ sizeLine; decide)), fun p2 np2 => ?_⟩
    have e5 := e34.put np2 (o := .tup (V.str "switch" :: (([.str n, .str t] : List V) ++ [v])))
    have rd5 := rd4.pure ((Eff.refl e34.sub).put np2 (o := .tup (V.str "switch" :: (([.str n, .str t] : List V) ++ [v]))))
    refine q _ _ _ e5 ?_ ⟨p2, rfl, v, upd_same, isSeq_mono (e4.same.trans (same_new (e34.sub.free np2) _)) (fun _ _ ⟨e, w', h1, h2, h3⟩ => ⟨e, w', h1, (e4.same.trans (same_new (e34.sub.free np2) _)) _ _ h2, isIts_mono (e4.same.trans (same_new (e34.sub.free np2) _)) h3⟩) hv3⟩
    have z : k + (((["switch", n, t] : List Str) :: ((cs.flatMap fun c => (["case", txt (.int c.1)] : List Str) :: c.2.flatMap (lnw d)) ++ [(["end"] : List Str)]) : List (List Str))).length = k + 1 + ((cs.flatMap fun c => (["case", txt (.int c.1)] : List Str) :: c.2.flatMap (lnw d))).length + 1 := by
      rw [List.length_cons, List.length_append, List.length_singleton]
      omega
    refine (z ▸ rd5 : RdAt (CR K) _ _ self La lines (k + (((["switch", n, t] : List Str) :: ((cs.flatMap fun c => (["case", txt (.int c.1)] : List Str) :: c.2.flatMap (lnw d)) ++ [(["end"] : List Str)]) : List (List Str))).length))
end
end K6
set_option Elab.async false
set_option linter.all false
set_option maxRecDepth 100000
set_option maxHeartbeats 4000000
namespace K6
open PySem PySem.Spec PyProof.Rows L2
theorem drop_take {α : Type} {l r : List α} {i : Nat} {y : α} (hx : l[i]? = some y) (h : l = l.take i ++ y :: r) : l.drop i = y :: r := by
  have hi := (List.getElem?_eq_some_iff.mp hx).1
  have z3 := List.drop_left (l₁ := l.take i) (l₂ := y :: r)
  rw [← h, List.length_take, Nat.min_eq_left (by omega)] at z3
  exact z3
section
variable {P : Program} {w : World} {K : PySem.W.Frag} {mg : Str → Option Value} {base : Heap} {f : Addr} {fd : FuncData}
abbrev s_ShapeReader_take_blocks : Stmt := inClass (top 42) 5
abbrev N_ShapeReader_take_blocks : List Str := ["self", "kind", "depth", "blocks", "word", "values", "items"]
theorem sc_ShapeReader_take_blocks : FnScope N_ShapeReader_take_blocks ["self", "kind", "depth"] (defScope s_ShapeReader_take_blocks) := ⟨rfl, rfl, rfl, by decide +kernel, rfl, by decide +kernel, by decide +kernel⟩
theorem b_ShapeReader_take_blocks (kV doc pm : Value) (an : Option Addr) (cdv ct : Value) (us : List Value) (hl : us.length = (["self", "kind", "depth"] : List Str).length) : bindArgs (PySem.W.fnOf "take_blocks" "ShapeReader.take_blocks" (defArgs s_ShapeReader_take_blocks) (defBody s_ShapeReader_take_blocks) (defScope s_ShapeReader_take_blocks) .none kV doc pm an cdv ct) ⟨us, []⟩ = pure ((["self", "kind", "depth"] : List Str).zip us) := match us, hl with | [_, _, _], _ => rfl
theorem ok_take_blocks {d k : Nat} (F : Fun K "take_blocks" "ShapeReader.take_blocks" s_ShapeReader_take_blocks f fd) (T : Tx w K mg) (F_next_word : Mc P w K mg base 1 (CR K) "next_word" (spNext K)) (F_take : Mc P w K mg base 3 (CR K) "take" (spTake K)) (F_take_items : Mc P w K mg base k (CR K) "take_items" (spTkItems K d)) (hk3 : 3 ≤ k) : FnR P w K mg base CX0 (k + 1) f (spTkBlocks K d) := by
  refine raw_of F sc_ShapeReader_take_blocks b_ShapeReader_take_blocks (fun vs H Q E h => by
    obtain ⟨_, _, _, _, _, _, _, _, _, _, h⟩ := h
    rcases h with ⟨_, rfl, _⟩ | ⟨_, rfl, _⟩ <;> rfl) (fun cdv A outer s H vs Q E hr h => ?_)
  obtain ⟨F, self, La, lines, k, dp, rest, rd, d1, dp4, h⟩ := h
  refine ⟨_, (pss_cons (ps_set (i := 3) sc_ShapeReader_take_blocks.nd rfl (by first | exact Or.inl rfl | exact Or.inr rfl) (pe_lst pa_nil))
    (pss_cons (ps_set (i := 4) sc_ShapeReader_take_blocks.nd rfl (by first | exact Or.inl rfl | exact Or.inr rfl) pe_str)
    (pss_cons (ps_if (pt_cmpR op_eq (pv 1) pe_str (nomark _))
      (pss_one (ps_set (i := 4) sc_ShapeReader_take_blocks.nd rfl (by first | exact Or.inl rfl | exact Or.inr rfl) pe_str))
      pss_nil)
    (pss_cons (ps_while PassesOwn.never (pt_cmpR op_eq (pe_mt0 (pv 0) T.c_ShapeReader F_next_word (hr.mono (by omega))) (pv 4) (nomark _))
      (pss_cons (ps_set (i := 5) sc_ShapeReader_take_blocks.nd rfl (by first | exact Or.inl rfl | exact Or.inr rfl) (pe_mt (pv 0) T.c_ShapeReader F_take (hr.mono (by omega)) (pa_cons (pv 4) pa_nil)))
      (pss_cons (ps_set (i := 6) sc_ShapeReader_take_blocks.nd rfl (by first | exact Or.inl rfl | exact Or.inr rfl) (pe_mt (pv 0) T.c_ShapeReader F_take_items (hr.mono (by omega)) (pa_cons (pv 2) pa_nil)))
      (pss_one (ps_if (pt_cmpR op_eq (pv 1) pe_str (nomark _))
        (pss_one (ps_expr (pe_bm PySem.F.plainAttrs_list PySem.F.slot_list_append PySem.F.type_list_append mt_append (pv 3) (pa_cons (pe_tup (pa_cons (pe_ix ix_list (pv 5) pe_int (fun _ _ => rfl)) (pa_cons (pv 6) pa_nil))) pa_nil))))
        (pss_one (ps_expr (pe_bm PySem.F.plainAttrs_list PySem.F.slot_list_append PySem.F.type_list_append mt_append (pv 3) (pa_cons (pv 6) pa_nil)))))))))
    (pss_one (ps_ret (pv 3))))))), ?_⟩
  obtain ⟨dx, ho⟩ := rd.obj
  rcases h with ⟨bs, rfl, hd, b8, ok, q⟩ | ⟨cs, rfl, hd, b8, ok, q⟩
  · refine sq ⟨Nat.zero_le _, fun il hil => ?_⟩
    have ne : il ≠ self := (ne_of_none ho hil).symm
    have fil : F il = none := rd.sub.free hil
    refine sq (show tSeq _ _ _ _ _ from sq (r_vN (z := "either") rfl (by decide +kernel) ?_))
    dsimp only
    refine sq ⟨fun m σ H' => ∃ i, i + m = bs.length ∧ ∃ v5 v6 F' ys, σ = [some (.ref self), some (.str "either"), some (.int dp), some (.ref il), some (.str "choice"), v5, v6] ∧ Eff [self] F H F' H' ∧ F' il = none ∧ H' il = some (.lst ys) ∧ Paired (fun v b => IsSeq false F' (IsIt false F' d) v b) ys (bs.take i) ∧ RdAt (CR K) F' H' self La lines (k + ((bs.take i).flatMap fun b => (["choice"] : List Str) :: b.flatMap (lnw d)).length), ⟨bs.length, 0, Nat.zero_add _, _, _, F, [], rfl, (Eff.refl rd.sub).loc hil, fil, upd_same, .nil, rd.other ne fil⟩, ?_⟩
    rintro m σ H1 ⟨i, him, v5, v6, F1, ys, rfl, e1, fl1, hl1, hps, rd1⟩
    have hdr : lines.drop (k + ((bs.take i).flatMap fun b => (["choice"] : List Str) :: b.flatMap (lnw d)).length) = ((bs.drop i).flatMap fun b => (["choice"] : List Str) :: b.flatMap (lnw d)) ++ ((["end"] : List Str) :: rest) := by
      refine drop_more (a := (bs.take i).flatMap fun b => (["choice"] : List Str) :: b.flatMap (lnw d)) ?_
      rw [hd, ← List.append_assoc, ← List.flatMap_append, List.take_append_drop]
    obtain ⟨dx1, ho1⟩ := rd1.obj
    cases m with
    | zero =>
      have i0 : i = bs.length := by omega
      subst i0
      rw [List.drop_length] at hdr
      rw [List.take_length] at hps rd1 hdr
      refine ⟨_, rfl, self, dx1, _, rfl, ho1, rdf_next, F1, self, La, lines, _, "end", rfl, rd1, (by rw [hdr]; exact .inr ⟨[], rest, rfl⟩), _, rfl, rfl, _, rfl, ?_⟩
      rw [show decide (V.str "end" = V.str "choice") = false from decide_eq_false fun z => absurd (V.str.inj z) (by decide +kernel)]
      refine iteF ⟨_, rfl, q (.ref il) (upd F1 il (.lst ys)) H1 (e1.frz hil hl1) (rd1.frz ne fl1 hl1) ⟨il, ys, rfl, upd_same, ?_, by omega⟩⟩
      exact paired_mono (fun _ _ h => isIts_mono (same_new fl1 _) h) hps
    | succ m =>
      have hi : i < bs.length := by omega
      have hx : bs[i]? = some bs[i] := List.getElem?_eq_getElem hi
      generalize bs[i] = y at hx
      obtain ⟨r, hlr, htk⟩ := cut_at hx
      have hdr2 : lines.drop (k + ((bs.take i).flatMap fun b => (["choice"] : List Str) :: b.flatMap (lnw d)).length) = ((["choice"] : List Str)) :: (y.flatMap (lnw d) ++ ((r.flatMap fun b => (["choice"] : List Str) :: b.flatMap (lnw d)) ++ ((["end"] : List Str) :: rest))) := by
        rw [hdr, drop_take hx hlr, List.flatMap_cons, List.append_assoc]
        rfl
      refine ⟨_, rfl, self, dx1, _, rfl, ho1, rdf_next, F1, self, La, lines, _, "choice", rfl, rd1, (by rw [hdr2]; exact .inr ⟨_, _, rfl⟩), _, rfl, rfl, _, rfl, ?_⟩
      rw [show decide (V.str "choice" = V.str "choice") = true from decide_eq_true rfl]
      refine iteT ⟨fun σ H' => ∃ v5 v6 F' ys, σ = [some (.ref self), some (.str "either"), some (.int dp), some (.ref il), some (.str "choice"), v5, v6] ∧ Eff [self] F H F' H' ∧ F' il = none ∧ H' il = some (.lst ys) ∧ Paired (fun v b => IsSeq false F' (IsIt false F' d) v b) ys (bs.take (i + 1)) ∧ RdAt (CR K) F' H' self La lines (k + ((bs.take (i + 1)).flatMap fun b => (["choice"] : List Str) :: b.flatMap (lnw d)).length), fun σ' H' h => ⟨m, Nat.lt_succ_self _, i + 1, by omega, h⟩, ?_⟩
      refine sq ⟨_, rfl, self, dx1, _, rfl, ho1, rdf_take, _, rfl, F1, self, La, lines, _, "choice", [], _, rfl, rd1, hdr2, fo_choice, fun a F2 H2 e2 rd2 ha => ?_⟩
      have hdr3 := (drop_at hdr2).2.1
      obtain ⟨dx2, ho2⟩ := rd2.obj
      have hnx : ∃ x, x ∈ noParts ∧ NextIs ((r.flatMap fun b => (["choice"] : List Str) :: b.flatMap (lnw d)) ++ ((["end"] : List Str) :: rest)) x := by
        cases r with
        | nil => exact ⟨"end", by decide +kernel, .inr ⟨[], rest, rfl⟩⟩
        | cons b r => exact ⟨"choice", by decide +kernel, .inr ⟨[], _, rfl⟩⟩
      obtain ⟨x, hxn, hxx⟩ := hnx
      have oky := ok y (List.mem_of_getElem? hx)
      dsimp only
      refine sq ⟨_, rfl, self, dx2, _, rfl, ho2, rdf_items, _, rfl, F2, self, La, lines, _, dp, y, x, _, rfl, rd2, hdr3, hxx, hxn, d1, by omega, oky.2, oky.1, fun v F3 H3 e3 rd3 hv3 => ?_⟩
      dsimp only
      refine r_vN (z := "either") rfl (by decide +kernel) ?_
      have hl2 : H2 il = _ := e2.keep _ _ hl1 (by simpa using ne)
      have fl2 : F2 il = none := e2.fresh _ fl1 (by rw [hl1]; intro z; cases z)
      have hl3 : H3 il = _ := e3.keep _ _ hl2 (by simpa using ne)
      have fl3 : F3 il = none := e3.fresh _ fl2 (by rw [hl2]; intro z; cases z)
      have yl := paired_len hps
      refine ⟨_, rfl, .inl ⟨rfl, _, SqL.of hl3⟩, _, rfl, il, _, _, rfl, rfl, hl3, Nat.lt_of_le_of_lt (show ys.length ≤ 1000 by rw [yl, List.length_take]; omega) (by decide), ?_⟩
      have e13 : Eff [self] F H F3 H3 := (e1.call e2 (fun m hm => .inl hm)).call e3 (fun m hm => .inl hm)
      refine ⟨_, _, F3, ys ++ [v], rfl, e13.wr fl3 (.inr hil), fl3, upd_same, ?_, ?_⟩
      · rw [htk]
        exact Paired.snoc (paired_mono (fun _ _ h => isIts_mono (e2.same.trans e3.same) h) hps) hv3
      · rw [htk, List.flatMap_append, List.flatMap_singleton, List.length_append, List.length_cons]
        have z : k + (((bs.take i).flatMap fun b => (["choice"] : List Str) :: b.flatMap (lnw d)).length + ((y.flatMap (lnw d)).length + 1)) = k + ((bs.take i).flatMap fun b => (["choice"] : List Str) :: b.flatMap (lnw d)).length + 1 + (y.flatMap (lnw d)).length := by omega
        rw [z]
        exact rd3.other ne fl3
  · refine sq ⟨Nat.zero_le _, fun il hil => ?_⟩
    have ne : il ≠ self := (ne_of_none ho hil).symm
    have fil : F il = none := rd.sub.free hil
    refine sq (show tSeq _ _ _ _ _ from sq (r_vY rfl ?_))
    dsimp only
    refine sq ⟨fun m σ H' => ∃ i, i + m = cs.length ∧ ∃ v5 v6 F' ys, σ = [some (.ref self), some (.str "switch"), some (.int dp), some (.ref il), some (.str "case"), v5, v6] ∧ Eff [self] F H F' H' ∧ F' il = none ∧ H' il = some (.lst ys) ∧ Paired (fun v (c : Int × List (Itm d)) => ∃ e w', v = .ref e ∧ F' e = some (.tup [.int c.1, w']) ∧ IsSeq false F' (IsIt false F' d) w' c.2) ys (cs.take i) ∧ RdAt (CR K) F' H' self La lines (k + ((cs.take i).flatMap fun c => (["case", txt (.int c.1)] : List Str) :: c.2.flatMap (lnw d)).length), ⟨cs.length, 0, Nat.zero_add _, _, _, F, [], rfl, (Eff.refl rd.sub).loc hil, fil, upd_same, .nil, rd.other ne fil⟩, ?_⟩
    rintro m σ H1 ⟨i, him, v5, v6, F1, ys, rfl, e1, fl1, hl1, hps, rd1⟩
    have hdr : lines.drop (k + ((cs.take i).flatMap fun c => (["case", txt (.int c.1)] : List Str) :: c.2.flatMap (lnw d)).length) = ((cs.drop i).flatMap fun c => (["case", txt (.int c.1)] : List Str) :: c.2.flatMap (lnw d)) ++ ((["end"] : List Str) :: rest) := by
      refine drop_more (a := (cs.take i).flatMap fun c => (["case", txt (.int c.1)] : List Str) :: c.2.flatMap (lnw d)) ?_
      rw [hd, ← List.append_assoc, ← List.flatMap_append, List.take_append_drop]
    obtain ⟨dx1, ho1⟩ := rd1.obj
    cases m with
    | zero =>
      have i0 : i = cs.length := by omega
      subst i0
      rw [List.drop_length] at hdr
      rw [List.take_length] at hps rd1 hdr
      refine ⟨_, rfl, self, dx1, _, rfl, ho1, rdf_next, F1, self, La, lines, _, "end", rfl, rd1, (by rw [hdr]; exact .inr ⟨[], rest, rfl⟩), _, rfl, rfl, _, rfl, ?_⟩
      rw [show decide (V.str "end" = V.str "case") = false from decide_eq_false fun z => absurd (V.str.inj z) (by decide +kernel)]
      refine iteF ⟨_, rfl, q (.ref il) (upd F1 il (.lst ys)) H1 (e1.frz hil hl1) (rd1.frz ne fl1 hl1) ⟨il, ys, rfl, upd_same, ?_, by omega⟩⟩
      exact paired_mono (fun _ _ ⟨e, w', h1, h2, h3⟩ => ⟨e, w', h1, same_new fl1 _ _ _ h2, isIts_mono (same_new fl1 _) h3⟩) hps
    | succ m =>
      have hi : i < cs.length := by omega
      have hx : cs[i]? = some cs[i] := List.getElem?_eq_getElem hi
      generalize cs[i] = y at hx
      obtain ⟨r, hlr, htk⟩ := cut_at hx
      have hdr2 : lines.drop (k + ((cs.take i).flatMap fun c => (["case", txt (.int c.1)] : List Str) :: c.2.flatMap (lnw d)).length) = ((["case", txt (.int y.1)] : List Str)) :: (y.2.flatMap (lnw d) ++ ((r.flatMap fun c => (["case", txt (.int c.1)] : List Str) :: c.2.flatMap (lnw d)) ++ ((["end"] : List Str) :: rest))) := by
        rw [hdr, drop_take hx hlr, List.flatMap_cons, List.append_assoc]
        rfl
      refine ⟨_, rfl, self, dx1, _, rfl, ho1, rdf_next, F1, self, La, lines, _, "case", rfl, rd1, (by rw [hdr2]; exact .inr ⟨_, _, rfl⟩), _, rfl, rfl, _, rfl, ?_⟩
      rw [show decide (V.str "case" = V.str "case") = true from decide_eq_true rfl]
      refine iteT ⟨fun σ H' => ∃ v5 v6 F' ys, σ = [some (.ref self), some (.str "switch"), some (.int dp), some (.ref il), some (.str "case"), v5, v6] ∧ Eff [self] F H F' H' ∧ F' il = none ∧ H' il = some (.lst ys) ∧ Paired (fun v (c : Int × List (Itm d)) => ∃ e w', v = .ref e ∧ F' e = some (.tup [.int c.1, w']) ∧ IsSeq false F' (IsIt false F' d) w' c.2) ys (cs.take (i + 1)) ∧ RdAt (CR K) F' H' self La lines (k + ((cs.take (i + 1)).flatMap fun c => (["case", txt (.int c.1)] : List Str) :: c.2.flatMap (lnw d)).length), fun σ' H' h => ⟨m, Nat.lt_succ_self _, i + 1, by omega, h⟩, ?_⟩
      have oky := ok y (List.mem_of_getElem? hx)
      refine sq ⟨_, rfl, self, dx1, _, rfl, ho1, rdf_take, _, rfl, F1, self, La, lines, _, "case", [.int y.1], _, rfl, rd1, hdr2, fo_case oky.1.1 oky.1.2, fun a F2 H2 e2 rd2 ha => ?_⟩
      have hdr3 := (drop_at hdr2).2.1
      obtain ⟨dx2, ho2⟩ := rd2.obj
      have hnx : ∃ x, x ∈ noParts ∧ NextIs ((r.flatMap fun c => (["case", txt (.int c.1)] : List Str) :: c.2.flatMap (lnw d)) ++ ((["end"] : List Str) :: rest)) x := by
        cases r with
        | nil => exact ⟨"end", by decide +kernel, .inr ⟨[], rest, rfl⟩⟩
        | cons b r => exact ⟨"case", by decide +kernel, .inr ⟨_, _, rfl⟩⟩
      obtain ⟨x, hxn, hxx⟩ := hnx
      dsimp only
      refine sq ⟨_, rfl, self, dx2, _, rfl, ho2, rdf_items, _, rfl, F2, self, La, lines, _, dp, y.2, x, _, rfl, rd2, hdr3, hxx, hxn, d1, by omega, oky.2.2, oky.2.1, fun v F3 H3 e3 rd3 hv3 => ?_⟩
      dsimp only
      refine r_vY rfl ?_
      have hl2 : H2 il = _ := e2.keep _ _ hl1 (by simpa using ne)
      have fl2 : F2 il = none := e2.fresh _ fl1 (by rw [hl1]; intro z; cases z)
      have hl3 : H3 il = _ := e3.keep _ _ hl2 (by simpa using ne)
      have fl3 : F3 il = none := e3.fresh _ fl2 (by rw [hl2]; intro z; cases z)
      have yl := paired_len hps
      have e13 : Eff [self] F H F3 H3 := (e1.call e2 (fun m hm => .inl hm)).call e3 (fun m hm => .inl hm)
      have ha3 : SqL K H3 a _ := SqL.of (e3.sub _ _ (e3.same _ _ ha))
      refine ⟨_, rfl, .inl ⟨rfl, _, SqL.of hl3⟩, _, rfl, a, _, _, _, rfl, rfl, ha3, at0, _, rfl, (by show 2 ≤ sizeLine; decide), fun t ht => ?_⟩
      have ht1 := ne_of_none hl3 ht
      have hl4 : (upd H3 t (.tup [.int y.1, v])) il = _ := (upd_ne ht1).trans hl3
      have fl4 : (upd F3 t (.tup [.int y.1, v])) il = none := (upd_ne ht1).trans fl3
      have e14 := e13.put ht (o := .tup [.int y.1, v])
      refine ⟨il, _, _, rfl, rfl, hl4, Nat.lt_of_le_of_lt (show ys.length ≤ 1000 by rw [yl, List.length_take]; omega) (by decide), ?_⟩
      have s3 := same_new (e13.sub.free ht) (.tup [.int y.1, v])
      refine ⟨_, _, _, ys ++ [V.ref t], rfl, e14.wr fl4 (.inr hil), fl4, upd_same, ?_, ?_⟩
      · rw [htk]
        have s4 := e2.same.trans (e3.same.trans s3)
        exact Paired.snoc (paired_mono (fun _ _ ⟨e, w', h1, h2, h3⟩ => ⟨e, w', h1, s4 _ _ h2, isIts_mono s4 h3⟩) hps) ⟨t, v, rfl, upd_same, isIts_mono s3 hv3⟩
      · rw [htk, List.flatMap_append, List.flatMap_singleton, List.length_append, List.length_cons]
        have z : k + (((cs.take i).flatMap fun c => (["case", txt (.int c.1)] : List Str) :: c.2.flatMap (lnw d)).length + ((y.2.flatMap (lnw d)).length + 1)) = k + ((cs.take i).flatMap fun c => (["case", txt (.int c.1)] : List Str) :: c.2.flatMap (lnw d)).length + 1 + (y.2.flatMap (lnw d)).length := by omega
        rw [z]
        exact (rd3.pure ((Eff.refl e13.sub).put ht)).other ne fl4
theorem read_all {f1 f2 f3 : Addr} {g1 g2 g3 : FuncData} (F1 : Fun K "take_items" "ShapeReader.take_items" s_ShapeReader_take_items f1 g1) (h1 : Meth K (CR K) "take_items" f1) (F2 : Fun K "take_item" "ShapeReader.take_item" s_ShapeReader_take_item f2 g2) (h2 : Meth K (CR K) "take_item" f2) (F3 : Fun K "take_blocks" "ShapeReader.take_blocks" s_ShapeReader_take_blocks f3 g3) (h3 : Meth K (CR K) "take_blocks" f3)
    (T : Tx w K mg) (F_next_word : Mc P w K mg base 1 (CR K) "next_word" (spNext K)) (F_take : Mc P w K mg base 3 (CR K) "take" (spTake K)) : ∀ d, Mc P w K mg base (3 * d + 2) (CR K) "take_items" (spTkItems K d) ∧ Mc P w K mg base (3 * d + 3) (CR K) "take_blocks" (spTkBlocks K d)
  | 0 => ⟨⟨f1, h1, fnR_no fun vs H Q E h => by
      obtain ⟨_, _, _, _, _, _, _, _, _, _, _, _, _, _, h1, _⟩ := h
      omega⟩, ⟨f3, h3, fnR_no fun vs H Q E h => by
      obtain ⟨_, _, _, _, _, _, _, _, h1, _⟩ := h
      omega⟩⟩
  | d + 1 => by
    obtain ⟨a, b⟩ := read_all F1 h1 F2 h2 F3 h3 T F_next_word F_take d
    have c : Mc P w K mg base (3 * d + 4) (CR K) "take_item" (spTkItem K d) := ⟨f2, h2, ok_take_item (k := 3 * d + 3) F2 T F_next_word F_take (a.mono (by omega)) b (by omega)⟩
    have a2 : Mc P w K mg base (3 * (d + 1) + 2) (CR K) "take_items" (spTkItems K (d + 1)) := ⟨f1, h1, ok_take_items (k := 3 * d + 4) F1 T F_next_word c (by omega)⟩
    exact ⟨a2, ⟨f3, h3, ok_take_blocks (k := 3 * (d + 1) + 2) F3 T F_next_word F_take a2 (by omega)⟩⟩
/-! ### parse_shape -/
theorem mk_shape {d : Nat} {F H : Hp} {v : V} {l : List (Itm d)} {Q : VK} (s : Same F H) (hl : IsIts false F d v l) (ok : OkShape d l) (q : ∀ a F' H', Eff [] F H F' H' → ShapeAt (CS K) F' d a l → Q (.ref a) H') :
    ∀ x dx, H x = none → H dx = none → dx ≠ x → spShape K d [V.ref x, v] (upd (upd H dx (.own x)) x (.ins (CS K) dx [])) (fun v H2 => v = .non ∧ Q (.ref x) H2) E0 := by
  intro x dx hx hdx ne
  have e0 : Eff [] F H F (upd (upd H dx (.own x)) x (.ins (CS K) dx [])) := ((Eff.refl s).loc hdx).loc (by rw [upd_ne ne.symm]; exact hx)
  exact ⟨F, x, dx, v, l, rfl, e0.sub, s.free hx, upd_same, hl, ok, fun F' H' o e f h sa => ⟨rfl, q x _ H' ((e0.call e (by intro m hm; rw [List.mem_singleton.mp hm]; exact .inr hx)).frz hx h) sa⟩⟩
theorem txt_le {d : Nat} {l : List (Itm d)} (ok : ∀ x ∈ l, OkN d x) (h30 : (nmsL d l).length ≤ 30) : (txtOf d l).length ≤ 50000 := by
  unfold txtOf
  rw [TL.join_eq]
  exact Nat.le_trans (join_le _ _) (txt_sum ok h30)
def spParse (K : PySem.W.Frag) : Sp := fun vs H Q _ => ∃ (F : Hp) (l : List (Itm 4)), vs = [.str (txtOf 4 l)] ∧ Same F H ∧ OkShape 4 l ∧ (∀ y ∈ l, OkN 4 y) ∧ ∀ a F' H', Eff [] F H F' H' → ShapeAt (CS K) F' 4 a l → Q (.ref a) H'
abbrev s_parse_shape : Stmt := top 43
abbrev N_parse_shape : List Str := ["text", "reader", "items"]
theorem sc_parse_shape : FnScope N_parse_shape ["text"] (defScope s_parse_shape) := ⟨rfl, rfl, rfl, by decide +kernel, rfl, by decide +kernel, by decide +kernel⟩
theorem b_parse_shape (kV doc pm : Value) (an : Option Addr) (cdv ct : Value) (us : List Value) (hl : us.length = (["text"] : List Str).length) : bindArgs (PySem.W.fnOf "parse_shape" "parse_shape" (defArgs s_parse_shape) (defBody s_parse_shape) (defScope s_parse_shape) .none kV doc pm an cdv ct) ⟨us, []⟩ = pure ((["text"] : List Str).zip us) := match us, hl with | [_], _ => rfl
theorem ok_parse_shape (F : Fun K "parse_shape" "parse_shape" s_parse_shape f fd) (T : Tx w K mg) (F_ShapeReader_init : FnR P w K mg base CX0 1 (He.ma K (He.ga K "ShapeReader") "__init__") (spReader K)) (F_take_items : Mc P w K mg base 14 (CR K) "take_items" (spTkItems K 4)) (F_Shape_init : FnR P w K mg base CX0 11 (He.ma K (He.ga K "Shape") "__init__") (spShape K 4)) : FnR P w K mg base CX0 15 f (spParse K) := by
  refine raw_of F sc_parse_shape b_parse_shape (fun vs H Q E h => by obtain ⟨_, _, rfl, _⟩ := h; rfl) (fun cdv A outer s H vs Q E hr h => ?_)
  obtain ⟨F, l, rfl, sFH, okS, ok, q⟩ := h
  refine ⟨_, (pss_cons (ps_set (i := 1) sc_parse_shape.nd rfl (by first | exact Or.inl rfl | exact Or.inr rfl) (pe_mk T.k_ShapeReader T.g_ShapeReader F_ShapeReader_init (hr.mono (by omega)) (pa_cons (pv 0) pa_nil)))
    (pss_cons (ps_set (i := 2) sc_parse_shape.nd rfl (by first | exact Or.inl rfl | exact Or.inr rfl) (pe_mt (pv 1) T.c_ShapeReader F_take_items (hr.mono (by omega)) (pa_cons pe_int pa_nil)))
    (pss_cons (ps_if (PW.pt (pw_or (pt_cmpR op_eq (pe_callB call_len_seq (by rfl) T.f_len PySem.boot_len (pa_cons (pv 2) pa_nil)) pe_int (nomark _)) (pw_or1 (pt_cmpR op_lt (pe_fld (pv 1) (by rfl)) (pe_callB call_len_seq (by rfl) T.f_len PySem.boot_len (pa_cons (pe_fld (pv 1) (by rfl)) pa_nil)) (nomark _)))))
      (pss_one ps_never)
      pss_nil)
    (pss_one (ps_ret (pe_mk T.k_Shape T.g_Shape F_Shape_init (hr.mono (by omega)) (pa_cons (pv 2) pa_nil))))))), ?_⟩
  obtain ⟨l0, l12, d1, d4, okl, hN, hL, c1⟩ := okS
  have lne : l.flatMap (lnw 4) ≠ [] := by
    cases l with
    | nil => exact absurd rfl l0
    | cons y r =>
      obtain ⟨ws, r2, e⟩ := ln_head (d := 3) y
      rw [List.flatMap_cons, e]
      exact List.cons_ne_nil _ _
  have l300 : (l.flatMap (lnw 4)).length ≤ 300 := by
    have := linesL_le fun x hx => (ok x hx).a
    omega
  refine sq ⟨_, rfl, fun rx rdx h1 h2 h3 => ?_⟩
  have e0 : Eff [] F H F (upd (upd H rdx (.own rx)) rx (.ins (CR K) rdx [])) := ((Eff.refl sFH).loc h2).loc (by rw [upd_ne h3.symm]; exact h1)
  refine ⟨F, rx, rdx, l.flatMap (lnw 4), _, rfl, e0.sub, sFH.free h1, upd_same, rfl, Nat.le_trans (txt_le ok hL) (by decide), lne, (fun ws hw => by
    obtain ⟨y, hy, hw⟩ := List.mem_flatMap.mp hw
    exact line_ok 4 y (ok y hy) ws hw), l300, fun La F1 H1 e1 rd1 => ⟨rfl, ?_⟩⟩
  dsimp only
  have e01 : Eff [] F H F1 H1 := e0.call e1 (by intro m hm; rw [List.mem_singleton.mp hm]; exact .inr h1)
  obtain ⟨dx1, ho1⟩ := rd1.obj
  refine sq ⟨_, rfl, rx, dx1, _, rfl, ho1, rdf_items, F1, rx, La, _, 0, 0, l, "", [], rfl, rd1, (by rw [List.append_nil]; rfl), .inl ⟨rfl, rfl⟩, by decide +kernel, d1, by omega, ok, l12, fun v F2 H2 e2 rd2 hv2 => ?_⟩
  dsimp only
  have e02 : Eff [] F H F2 H2 := e01.call e2 (by intro m hm; rw [List.mem_singleton.mp hm]; exact .inr h1)
  obtain ⟨dx2, ho2⟩ := rd2.obj
  have hv3 := hv2
  obtain ⟨a, vs, rfl, ha, hp, hlen⟩ := hv2
  obtain ⟨lv, h4, h5⟩ := rd2.ls
  have n0 : ¬ V.int ((vs.length : Nat) : Int) = V.int 0 := by
    intro z
    have z1 := V.int.inj z
    have z2 := paired_len hp
    have z3 := List.length_pos_iff.mpr l0
    omega
  have n1 : ¬ (((0 + (l.flatMap (lnw 4)).length : Nat) : Int) < ((lv.length : Nat) : Int)) := by
    have := paired_len h5
    omega
  refine sq ⟨_, rfl, a, _, rfl, .inl (SqL.of (rd2.sub _ _ ha)), rfl, _, rfl, ?_⟩
  rw [decide_eq_false n0]
  refine iteF ⟨_, rfl, rx, _, dx2, _, _, rfl, ho2, T.c_ShapeReader, T.n_ShapeReader_at, rdf_at, _, rfl, rx, _, dx2, _, _, rfl, ho2, T.c_ShapeReader, T.n_ShapeReader_lines, rdf_lines, La, _, rfl, .inl (SqL.of (rd2.sub _ _ h4)), _, _, rfl, rfl, _, rfl, ?_⟩
  rw [decide_eq_false n1]
  refine iteF ⟨_, rfl, mk_shape e02.sub hv3 ⟨l0, l12, d1, d4, okl, hN, hL, c1⟩ fun a2 F3 H3 e3 sa => q a2 F3 H3 (e02.pure e3) sa⟩
end
end K6
set_option Elab.async false
set_option linter.all false
set_option maxRecDepth 100000
set_option maxHeartbeats 4000000
namespace K6
open PySem PySem.Spec PyProof.Rows L2
/-! ### the draw: numbers, the place, the names left, the checks -/
structure DrawAt (F H : Hp) (dw na ca : Addr) (nm : List Str) (cz : Nat) : Prop where
  sub : Same F H
  obj : ∃ nu pos ns, H dw = some (.lst [.ref nu, .int pos, .ref na, .ref ca]) ∧ 0 ≤ pos ∧ F nu = some (.lst (ns.map V.int)) ∧ ns ≠ [] ∧ ∀ n ∈ ns, 0 ≤ n
  nms : H na = some (.lst (nm.map V.str))
  chk : ∃ vs, H ca = some (.lst vs) ∧ vs.length = cz
  fd : F dw = none
  fn : F na = none
  fc : F ca = none
  n1 : dw ≠ na
  n2 : dw ≠ ca
  n3 : na ≠ ca
section
variable {F H F' H' : Hp} {dw na ca : Addr} {nm : List Str} {cz : Nat}
theorem DrawAt.pure (r : DrawAt F H dw na ca nm cz) (e : Eff [] F H F' H') : DrawAt F' H' dw na ca nm cz := by
  obtain ⟨nu, pos, ns, h1, h2, h3, h4⟩ := r.obj
  obtain ⟨vs, h5, h6⟩ := r.chk
  exact ⟨e.sub, ⟨nu, pos, ns, e.all _ _ h1, h2, e.same _ _ h3, h4⟩, e.all _ _ r.nms, ⟨vs, e.all _ _ h5, h6⟩, e.fresh _ r.fd (by rw [h1]; intro z; cases z), e.fresh _ r.fn (by rw [r.nms]; intro z; cases z), e.fresh _ r.fc (by rw [h5]; intro z; cases z), r.n1, r.n2, r.n3⟩
theorem DrawAt.other {p : Addr} {o : HO} (r : DrawAt F H dw na ca nm cz) (h1 : p ≠ dw) (h2 : p ≠ na) (h3 : p ≠ ca) (hF : F p = none) : DrawAt F (upd H p o) dw na ca nm cz := by
  obtain ⟨nu, pos, ns, h4, h5⟩ := r.obj
  obtain ⟨vs, h6, h7⟩ := r.chk
  exact ⟨sub_mut r.sub hF, ⟨nu, pos, ns, by rw [upd_ne h1.symm]; exact h4, h5⟩, by rw [upd_ne h2.symm]; exact r.nms, ⟨vs, by rw [upd_ne h3.symm]; exact h6, h7⟩, r.fd, r.fn, r.fc, r.n1, r.n2, r.n3⟩
theorem DrawAt.new {p : Addr} (r : DrawAt F H dw na ca nm cz) (h : H p = none) : p ≠ dw ∧ p ≠ na ∧ p ≠ ca := by
  obtain ⟨nu, pos, ns, h4, h5⟩ := r.obj
  obtain ⟨vs, h6, h7⟩ := r.chk
  exact ⟨(ne_of_none h4 h).symm, (ne_of_none r.nms h).symm, (ne_of_none h6 h).symm⟩
theorem DrawAt.pop {x : Str} (r : DrawAt F H dw na ca (x :: nm) cz) : DrawAt F (upd H na (.lst (nm.map V.str))) dw na ca nm cz := by
  obtain ⟨nu, pos, ns, h4, h5⟩ := r.obj
  obtain ⟨vs, h6, h7⟩ := r.chk
  exact ⟨sub_mut r.sub r.fn, ⟨nu, pos, ns, by rw [upd_ne r.n1]; exact h4, h5⟩, upd_same, ⟨vs, by rw [upd_ne r.n3.symm]; exact h6, h7⟩, r.fd, r.fn, r.fc, r.n1, r.n2, r.n3⟩
theorem DrawAt.check {vs : List V} {v : V} (r : DrawAt F H dw na ca nm cz) (h : vs.length = cz) : DrawAt F (upd H ca (.lst (vs ++ [v]))) dw na ca nm (cz + 1) := by
  obtain ⟨nu, pos, ns, h4, h5⟩ := r.obj
  exact ⟨sub_mut r.sub r.fc, ⟨nu, pos, ns, by rw [upd_ne r.n2]; exact h4, h5⟩, by rw [upd_ne r.n3]; exact r.nms, ⟨_, upd_same, by rw [List.length_append, h]; rfl⟩, r.fd, r.fn, r.fc, r.n1, r.n2, r.n3⟩
end
section
variable {P : Program} {w : World} {K : PySem.W.Frag} {mg : Str → Option Value} {base : Heap} {f : Addr} {fd : FuncData}
/-! ### _law_next -/
def spNextN : Sp := fun vs H Q _ => ∃ (F : Hp) (dw na ca : Addr) (nm : List Str) (cz : Nat) (many : Int), vs = [.ref dw, .int many] ∧ DrawAt F H dw na ca nm cz ∧ 0 < many ∧ ∀ n H', 0 ≤ n → n < many → Eff [dw] F H F H' → DrawAt F H' dw na ca nm cz → Q (.int n) H'
abbrev s__law_next : Stmt := top 47
abbrev N__law_next : List Str := ["_law_draw", "_law_many"]
theorem sc__law_next : FnScope N__law_next ["_law_draw", "_law_many"] (defScope s__law_next) := ⟨rfl, rfl, rfl, by decide +kernel, rfl, by decide +kernel, by decide +kernel⟩
theorem b__law_next (kV doc pm : Value) (an : Option Addr) (cdv ct : Value) (us : List Value) (hl : us.length = (["_law_draw", "_law_many"] : List Str).length) : bindArgs (PySem.W.fnOf "_law_next" "_law_next" (defArgs s__law_next) (defBody s__law_next) (defScope s__law_next) .none kV doc pm an cdv ct) ⟨us, []⟩ = pure ((["_law_draw", "_law_many"] : List Str).zip us) := match us, hl with | [_, _], _ => rfl
theorem ok_law_next (F : Fun K "_law_next" "_law_next" s__law_next f fd) (T : Tx w K mg) : FnR P w K mg base CX0 1 f spNextN := by
  refine raw_of F sc__law_next b__law_next (fun vs H Q E h => by obtain ⟨_, _, _, _, _, _, _, rfl, _⟩ := h; rfl) (fun cdv A outer s H vs Q E hr h => ?_)
  obtain ⟨F, dw, na, ca, nm, cz, many, rfl, dr, hm, q⟩ := h
  refine ⟨_, (pss_cons (ps_asg (pe_op op_add (pe_ix ix_list (pv 0) pe_int (fun _ _ => rfl)) pe_int) (pg_sub (pv 0) pe_int set_list))
    (pss_one (ps_ret (pe_op op_mod (pe_callTy call_int1 (by rfl) T.f_int (by decide +kernel) (pa_cons (pe_ix ix_list (pe_ix ix_list (pv 0) pe_int (fun _ _ => rfl)) (pe_op op_mod (pe_ix ix_list (pv 0) pe_int (fun _ _ => rfl)) (pe_callB call_len_seq (by rfl) T.f_len PySem.boot_len (pa_cons (pe_ix ix_list (pv 0) pe_int (fun _ _ => rfl)) pa_nil))) (fun _ _ => rfl)) pa_nil)) (pv 1))))), ?_⟩
  obtain ⟨nu, pos, ns, h1, h2, h3, h4, h5⟩ := dr.obj
  have dr1 : DrawAt F (upd H dw (.lst [.ref nu, .int (pos + 1), .ref na, .ref ca])) dw na ca nm cz := by
    obtain ⟨vs, h6, h7⟩ := dr.chk
    exact ⟨sub_mut dr.sub dr.fd, ⟨nu, pos + 1, ns, upd_same, by omega, h3, h4, h5⟩, by rw [upd_ne dr.n1.symm]; exact dr.nms, ⟨vs, by rw [upd_ne dr.n2.symm]; exact h6, h7⟩, dr.fd, dr.fn, dr.fc, dr.n1, dr.n2, dr.n3⟩
  have e1 : Eff [dw] F H F (upd H dw (.lst [.ref nu, .int (pos + 1), .ref na, .ref ca])) := (Eff.refl dr.sub).wr dr.fd (.inl (by simp))
  have hS : SqL K (upd H dw (.lst [.ref nu, .int (pos + 1), .ref na, .ref ca])) dw _ := SqL.of upd_same
  have hN : SqL K (upd H dw (.lst [.ref nu, .int (pos + 1), .ref na, .ref ca])) nu _ := SqL.of (e1.sub _ _ h3)
  refine sq ⟨_, rfl, dw, _, _, _, rfl, rfl, SqL.of h1, at1, _, _, rfl, rfl, _, rfl, dw, _, 1, 1, rfl, rfl, h1, rfl, ?_⟩
  have lp : 0 < ns.length := List.length_pos_iff.mpr h4
  have lq : (0 : Int) < ((ns.map V.int).length : Nat) := by rw [List.length_map]; omega
  have m0 := Int.emod_nonneg (pos + 1) (show ((ns.map V.int).length : Int) ≠ 0 by omega)
  have m1 := Int.emod_lt_of_pos (pos + 1) lq
  have hj : ((pos + 1) % ((ns.map V.int).length : Int)).toNat < ns.length := by
    rw [List.length_map] at m1 m0 ⊢
    omega
  have hget : ns[((pos + 1) % ((ns.map V.int).length : Int)).toNat]? = some ns[((pos + 1) % ((ns.map V.int).length : Int)).toNat] := List.getElem?_eq_getElem hj
  have n0 := h5 _ (List.mem_of_getElem? hget)
  have hat : atI (ns.map V.int) ((pos + 1) % ((ns.map V.int).length : Int)) = some (.int ns[((pos + 1) % ((ns.map V.int).length : Int)).toNat]) := at_nat_ (Int.toNat_of_nonneg m0).symm (by rw [List.getElem?_map, hget]; rfl)
  generalize ns[((pos + 1) % ((ns.map V.int).length : Int)).toNat] = n at *
  refine ⟨_, rfl, dw, _, _, _, rfl, rfl, hS, at0, _, rfl, dw, _, _, _, rfl, rfl, hS, at1, _, rfl, dw, _, _, _, rfl, rfl, hS, at0, nu, _, rfl, .inl hN, _, _, rfl, rfl, lq, nu, _, _, _, rfl, rfl, hN, hat, .inl ⟨_, rfl, _, rfl, _, _, rfl, rfl, hm, ?_⟩⟩
  exact q _ _ (Int.emod_nonneg _ (by omega)) (Int.emod_lt_of_pos _ hm) e1 dr1
theorem pick_of {xs : List V} {n : Int} (h0 : 0 ≤ n) (h1 : n < (xs.length : Nat)) : ∃ v, atI xs n = some v ∧ v ∈ xs := by
  have hj : n.toNat < xs.length := by omega
  have e : xs[n.toNat]? = some xs[n.toNat] := List.getElem?_eq_getElem hj
  exact ⟨_, at_nat_ (Int.toNat_of_nonneg h0).symm e, List.mem_of_getElem? e⟩
theorem Eff.keepL {M : List Addr} {F H F' H' : Hp} {p : Addr} {xs : List V} {K : PySem.W.Frag} (e : Eff M F H F' H') (h : F p = some (.lst xs)) : SqL K H' p xs := SqL.of (e.sub _ _ (e.same _ _ h))
/-! ### _law_number -/
def spNumber : Sp := fun vs H Q _ => ∃ (F : Hp) (dw na ca : Addr) (nm : List Str) (cz : Nat) (x : Str), vs = [.ref dw, .str x] ∧ DrawAt F H dw na ca nm cz ∧
  ∀ a F' H' sz o lo hi, Eff [dw] F H F' H' → DrawAt F' H' dw na ca nm cz → F' a = some (.tup [.str "number", .str x, .int sz, .str o, .int lo, .int hi]) → (∀ vis, OkP vis (.number x sz o lo hi)) → Q (.ref a) H'
abbrev s__law_number : Stmt := top 49
abbrev N__law_number : List Str := ["_law_draw", "_law_name", "_law_size", "_law_most", "_law_low", "_law_high"]
theorem sc__law_number : FnScope N__law_number ["_law_draw", "_law_name"] (defScope s__law_number) := ⟨rfl, rfl, rfl, by decide +kernel, rfl, by decide +kernel, by decide +kernel⟩
theorem b__law_number (kV doc pm : Value) (an : Option Addr) (cdv ct : Value) (us : List Value) (hl : us.length = (["_law_draw", "_law_name"] : List Str).length) : bindArgs (PySem.W.fnOf "_law_number" "_law_number" (defArgs s__law_number) (defBody s__law_number) (defScope s__law_number) .none kV doc pm an cdv ct) ⟨us, []⟩ = pure ((["_law_draw", "_law_name"] : List Str).zip us) := match us, hl with | [_, _], _ => rfl
theorem ok_law_number (F : Fun K "_law_number" "_law_number" s__law_number f fd) (T : Tx w K mg) (F__law_next : Fc P w K mg base 1 "_law_next" spNextN) : FnR P w K mg base CX0 2 f spNumber := by
  refine raw_of F sc__law_number b__law_number (fun vs H Q E h => by obtain ⟨_, _, _, _, _, _, _, rfl, _⟩ := h; rfl) (fun cdv A outer s H vs Q E hr h => ?_)
  obtain ⟨F, dw, na, ca, nm, cz, x, rfl, dr, q⟩ := h
  refine ⟨_, (pss_cons (ps_set (i := 2) sc__law_number.nd rfl (by first | exact Or.inl rfl | exact Or.inr rfl) (pe_op op_add pe_int (pe_cl F__law_next (hr.mono (by omega)) (pa_cons (pv 0) (pa_cons pe_int pa_nil)))))
    (pss_cons (ps_set (i := 3) sc__law_number.nd rfl (by first | exact Or.inl rfl | exact Or.inr rfl) (pe_ix ix_list (pe_lst (pa_cons pe_int (pa_cons pe_int pa_nil))) (pe_op op_sub (pv 2) pe_int) (fun _ _ => rfl)))
    (pss_cons (ps_set (i := 4) sc__law_number.nd rfl (by first | exact Or.inl rfl | exact Or.inr rfl) (pe_ix ix_list (pe_lst (pa_cons pe_int (pa_cons (pe_cl F__law_next (hr.mono (by omega)) (pa_cons (pv 0) (pa_cons pe_int pa_nil))) (pa_cons (pe_cl F__law_next (hr.mono (by omega)) (pa_cons (pv 0) (pa_cons (pe_op op_add (pv 3) pe_int) pa_nil))) pa_nil)))) (pe_cl F__law_next (hr.mono (by omega)) (pa_cons (pv 0) (pa_cons pe_int pa_nil))) (fun _ _ => rfl)))
    (pss_cons (ps_set (i := 5) sc__law_number.nd rfl (by first | exact Or.inl rfl | exact Or.inr rfl) (pe_ix ix_list (pe_lst (pa_cons (pv 4) (pa_cons (pv 3) (pa_cons (pe_callB (call_min2 rfl) (by rfl) T.f_min (by decide +kernel) (pa_cons (pv 3) (pa_cons (pe_op op_add (pv 4) (pe_cl F__law_next (hr.mono (by omega)) (pa_cons (pv 0) (pa_cons pe_int pa_nil)))) pa_nil))) (pa_cons (pe_callB (call_min2 rfl) (by rfl) T.f_min (by decide +kernel) (pa_cons pe_int (pa_cons (pe_callB (call_max2 rfl) (by rfl) T.f_max (by decide +kernel) (pa_cons (pv 4) (pa_cons pe_int pa_nil))) pa_nil))) pa_nil))))) (pe_cl F__law_next (hr.mono (by omega)) (pa_cons (pv 0) (pa_cons pe_int pa_nil))) (fun _ _ => rfl)))
    (pss_one (ps_ret (pe_tup (pa_cons pe_str (pa_cons (pv 1) (pa_cons (pv 2) (pa_cons (pe_ix ix_list (pe_lst (pa_cons pe_str (pa_cons pe_str pa_nil))) (pe_cl F__law_next (hr.mono (by omega)) (pa_cons (pv 0) (pa_cons pe_int pa_nil))) (fun _ _ => rfl)) (pa_cons (pv 4) (pa_cons (pe_callB (call_max2 rfl) (by rfl) T.f_max (by decide +kernel) (pa_cons (pv 4) (pa_cons (pv 5) pa_nil))) pa_nil))))))))))))), ?_⟩
  refine sq ⟨_, rfl, F, dw, na, ca, nm, cz, 2, rfl, dr, by decide, fun n1 H1 a1 b1 e1 dr1 => ⟨_, _, rfl, rfl, ?_⟩⟩
  have hmost : ∃ most : Int, atI [V.int 255, V.int 65535] (1 + n1 - 1) = some (.int most) ∧ ((1 + n1 = 1 ∧ most = 255) ∨ (1 + n1 = 2 ∧ most = 65535)) := by
    have : n1 = 0 ∨ n1 = 1 := by omega
    rcases this with rfl | rfl
    · exact ⟨255, at_nat_ (j := 0) rfl rfl, .inl ⟨rfl, rfl⟩⟩
    · exact ⟨65535, at_nat_ (j := 1) rfl rfl, .inr ⟨rfl, rfl⟩⟩
  obtain ⟨most, hat, hmo⟩ := hmost
  dsimp only
  refine sq ⟨(by show 2 ≤ sizeLine; decide), fun p1 hp1 => ?_⟩
  have e2 := e1.put hp1 (o := .lst [.int 255, .int 65535])
  have dr2 := dr1.pure ((Eff.refl dr1.sub).put hp1 (o := .lst [.int 255, .int 65535]))
  refine ⟨_, rfl, _, _, rfl, rfl, p1, _, _, _, rfl, rfl, SqL.of upd_same, hat, ?_⟩
  dsimp only
  have m0 : 255 ≤ most := by rcases hmo with q | q <;> omega
  refine sq ⟨_, rfl, _, dw, na, ca, nm, cz, 4, rfl, dr2, by decide, fun n2 H3 a2 b2 e3 dr3 => ?_⟩
  refine ⟨_, rfl, _, rfl, _, _, rfl, rfl, _, dw, na, ca, nm, cz, most + 1, rfl, dr3, by omega, fun n3 H4 a3 b3 e4 dr4 => ?_⟩
  have e14 := (e2.call e3 (fun m hm => .inl hm)).call e4 (fun m hm => .inl hm)
  refine ⟨(by show 3 ≤ sizeLine; decide), fun p2 hp2 => ?_⟩
  have e5 := e14.put hp2 (o := .lst [.int 0, .int n2, .int n3])
  have dr5 := dr4.pure ((Eff.refl dr4.sub).put hp2 (o := .lst [.int 0, .int n2, .int n3]))
  refine ⟨_, rfl, _, dw, na, ca, nm, cz, 3, rfl, dr5, by decide, fun n4 H6 a4 b4 e6 dr6 => ?_⟩
  have e16 := e5.call e6 (fun m hm => .inl hm)
  obtain ⟨lv, hlv, hlm⟩ := pick_of (xs := [V.int 0, V.int n2, V.int n3]) a4 b4
  have hlow : ∃ low : Int, lv = .int low ∧ 0 ≤ low ∧ low ≤ most := by
    simp only [List.mem_cons, List.not_mem_nil, or_false] at hlm
    rcases hlm with rfl | rfl | rfl
    · exact ⟨0, rfl, by omega, by omega⟩
    · exact ⟨n2, rfl, by omega, by omega⟩
    · exact ⟨n3, rfl, by omega, by omega⟩
  obtain ⟨low, rfl, l0, l1⟩ := hlow
  refine ⟨p2, _, _, _, rfl, rfl, e6.keepL upd_same, hlv, ?_⟩
  dsimp only
  refine sq ⟨_, rfl, _, rfl, _, rfl, _, rfl, _, rfl, _, dw, na, ca, nm, cz, 16, rfl, dr6, by decide, fun n5 H7 a5 b5 e7 dr7 => ?_⟩
  have e17 := e16.call e7 (fun m hm => .inl hm)
  refine ⟨_, _, rfl, rfl, _, _, rfl, _, rfl, _, _, rfl, _, _, rfl, (by show 4 ≤ sizeLine; decide), fun p3 hp3 => ?_⟩
  have e8 := e17.put hp3 (o := .lst [.int low, .int most, .int (if low + n5 < most then low + n5 else most), .int (if (if (64 : Int) > low then 64 else low) < 64 then (if (64 : Int) > low then 64 else low) else 64)])
  have dr8 := dr7.pure ((Eff.refl dr7.sub).put hp3 (o := .lst [.int low, .int most, .int (if low + n5 < most then low + n5 else most), .int (if (if (64 : Int) > low then 64 else low) < 64 then (if (64 : Int) > low then 64 else low) else 64)]))
  refine ⟨_, rfl, _, dw, na, ca, nm, cz, 4, rfl, dr8, by decide, fun n6 H9 a6 b6 e9 dr9 => ?_⟩
  have e19 := e8.call e9 (fun m hm => .inl hm)
  obtain ⟨hv, hhv, hhm⟩ := pick_of (xs := [V.int low, V.int most, V.int (if low + n5 < most then low + n5 else most), V.int (if (if (64 : Int) > low then 64 else low) < 64 then (if (64 : Int) > low then 64 else low) else 64)]) a6 b6
  have hhigh : ∃ high : Int, hv = .int high ∧ high ≤ most := by
    simp only [List.mem_cons, List.not_mem_nil, or_false] at hhm
    rcases hhm with rfl | rfl | rfl | rfl
    · exact ⟨_, rfl, l1⟩
    · exact ⟨_, rfl, Int.le_refl _⟩
    · refine ⟨_, rfl, ?_⟩
      split <;> omega
    · refine ⟨_, rfl, ?_⟩
      split
      · split <;> omega
      · omega
  obtain ⟨high, rfl, g1⟩ := hhigh
  refine ⟨p3, _, _, _, rfl, rfl, e9.keepL upd_same, hhv, ?_⟩
  dsimp only
  refine ⟨_, rfl, _, rfl, (by show 2 ≤ sizeLine; decide), fun p4 hp4 => ?_⟩
  have e10 := e19.put hp4 (o := .lst [.str "big", .str "little"])
  have dr10 := dr9.pure ((Eff.refl dr9.sub).put hp4 (o := .lst [.str "big", .str "little"]))
  refine ⟨_, rfl, _, dw, na, ca, nm, cz, 2, rfl, dr10, by decide, fun n7 H11 a7 b7 e11 dr11 => ?_⟩
  have e111 := e10.call e11 (fun m hm => .inl hm)
  obtain ⟨ov, hov, hom⟩ := pick_of (xs := [V.str "big", V.str "little"]) a7 b7
  have hord : ∃ o : Str, ov = .str o ∧ (o = "big" ∨ o = "little") := by
    simp only [List.mem_cons, List.not_mem_nil, or_false] at hom
    rcases hom with rfl | rfl
    · exact ⟨_, rfl, .inl rfl⟩
    · exact ⟨_, rfl, .inr rfl⟩
  obtain ⟨o, rfl, ho⟩ := hord
  refine ⟨p4, _, _, _, rfl, rfl, e11.keepL upd_same, hov, _, rfl, _, rfl, _, rfl, _, _, rfl, (by show 6 ≤ sizeLine; decide), fun t ht => ?_⟩
  refine q t _ _ _ _ _ _ (e111.put ht) (dr11.pure ((Eff.refl dr11.sub).put ht)) upd_same fun vis => ⟨?_, ho, l0, ?_⟩
  · rcases hmo with ⟨z1, z2⟩ | ⟨z1, z2⟩
    · exact .inl ⟨z1, by split <;> omega⟩
    · exact .inr ⟨z1, by split <;> omega⟩
  · split <;> omega
end
end K6
set_option Elab.async false
set_option linter.all false
set_option maxRecDepth 100000
set_option maxHeartbeats 4000000
namespace K6
open PySem PySem.Spec PyProof.Rows L2
abbrev VisL (F : Hp) (vs : List V) (vis : Env1) : Prop := Paired (fun v (q : Str × Int × Int) => ∃ a sz o, v = V.ref a ∧ F a = some (.tup [.str "number", .str q.1, .int sz, .str o, .int q.2.1, .int q.2.2]) ∧ 0 ≤ q.2.1 ∧ q.2.1 ≤ q.2.2) vs vis
def VisAt (F H : Hp) (av dw na ca : Addr) (vis : Env1) : Prop := av ≠ dw ∧ av ≠ na ∧ av ≠ ca ∧ ∃ vs, H av = some (.lst vs) ∧ VisL F vs vis
theorem visL_mono {F F' : Hp} (s : Same F F') {vs : List V} {vis : Env1} (h : VisL F vs vis) : VisL F' vs vis := paired_mono (fun _ _ ⟨a, sz, o, h1, h2, h3⟩ => ⟨a, sz, o, h1, s _ _ h2, h3⟩) h
theorem VisAt.eff {M : List Addr} {F H F' H' : Hp} {av dw na ca : Addr} {vis : Env1} (v : VisAt F H av dw na ca vis) (e : Eff M F H F' H') (hM : ∀ m ∈ M, m = dw ∨ m = na ∨ m = ca) : VisAt F' H' av dw na ca vis := by
  obtain ⟨h1, h2, h3, vs, h4, h5⟩ := v
  refine ⟨h1, h2, h3, vs, e.keep _ _ h4 fun z => ?_, visL_mono e.same h5⟩
  rcases hM _ z with rfl | rfl | rfl
  · exact h1 rfl
  · exact h2 rfl
  · exact h3 rfl
def LcF (J : It) (g : TG) (tt : TT) (te : TE) (vs : List Nat) (σ : L2.St) (H1 : Hp) (Q : VK) : Prop := tLc (fun _ H R => R J H) g tt te vs σ H1 Q
def tLcF (wi : TI) (g : TG) (tt : TT) (te : TE) (vs : List Nat) : TE := fun σ H Q => wi σ H fun J H1 => LcF J g tt te vs σ H1 Q
theorem ps_setLcF {X : Cx} {st : Stmt} {i : Nat} {wi : TI} {g : TG} {tt : TT} {te : TE} {vs : List Nat} (h : PS X st (tAsg (tLc wi g tt te vs) (gName i))) : PS X st (tAsg (tLcF wi g tt te vs) (gName i)) := h
/-- a comprehension with a test, that changes nothing -/
theorem lcf {K : PySem.W.Frag} {F H : Hp} {a : Addr} {xs : List V} {g : TG} {tt : TT} {te : TE} {vs : List Nat} {σ : L2.St} {Q : VK} (hq : SqL K H a xs) (hz : xs.length ≤ 16000000) (sFH : Same F H) (R : V → Prop)
    (hs : ∀ x, x ∈ xs → ∀ H', Same H H' → ∀ (k : VK) (N : Hp → Prop), (∀ y, R y → k y H') → N H' → g x (wipe σ vs) H' fun σ2 H2 => wipe σ2 vs = wipe σ vs ∧ tt σ2 H2 fun b H3 => if b = true then te σ2 H3 k else N H3)
    (hd : ∀ D ys F' H', H D = none → Eff [] F H F' H' → F' D = some (.lst ys) → ys.length ≤ xs.length → (∀ y ∈ ys, R y) → Q (.ref D) H') :
    LcF (Itl K a) g tt te vs σ H Q := by
  intro D nD
  have zl : (16000000 : Nat) < sizeLine := by decide
  refine ⟨fun i m H' => i + m = xs.length ∧ ∃ ys, H' = upd H D (.lst ys) ∧ ys.length ≤ i ∧ ∀ y ∈ ys, R y, ⟨xs.length, Nat.zero_add _, [], rfl, Nat.le_refl _, fun y h => nomatch h⟩, ?_⟩
  rintro i m H' ⟨him, ys, rfl, hl, hR⟩
  have sm := same_new nD (.lst ys)
  cases m with
  | zero => exact .inl ⟨⟨xs, sqL_same sm hq, by omega⟩, hd D ys _ _ nD ((Eff.refl sFH).put nD) upd_same (by omega) hR⟩
  | succ m =>
    have hi : i < xs.length := by omega
    refine .inr ⟨⟨xs, xs[i], sqL_same sm hq, List.getElem?_eq_getElem hi⟩, fun H'' => i + 1 + m = xs.length ∧ ∃ ys, H'' = upd H D (.lst ys) ∧ ys.length ≤ i + 1 ∧ ∀ y ∈ ys, R y, fun H'' h => ⟨m, Nat.lt_succ_self _, h⟩, ?_⟩
    rintro x H'' ⟨rfl, hx⟩
    refine hs x (List.mem_of_getElem? (hx xs (sqL_same sm hq))) _ sm _ _ (fun y hy => ⟨ys, upd_same, by omega, by omega, ys ++ [y], upd_upd, by rw [List.length_append, List.length_singleton]; omega, fun z hz => ?_⟩) ⟨by omega, ys, rfl, by omega, hR⟩
    rcases List.mem_append.mp hz with h | h
    · exact hR z h
    · rw [List.mem_singleton.mp h]
      exact hy
section
variable {P : Program} {w : World} {K : PySem.W.Frag} {mg : Str → Option Value} {base : Heap} {f : Addr} {fd : FuncData}
def spUse : Sp := fun vs H Q _ => ∃ (F : Hp) (dw na ca av : Addr) (nm : List Str) (cz : Nat) (vis : Env1) (most : Int), vs = [.ref dw, .ref av, .int most] ∧ DrawAt F H dw na ca nm cz ∧ VisAt F H av dw na ca vis ∧ vis.length ≤ 1000 ∧ 4 ≤ most ∧
  ∀ u F' H', Eff [dw] F H F' H' → DrawAt F' H' dw na ca nm cz → UseOk vis most u → Q u.v H'
abbrev s__law_use : Stmt := top 50
abbrev N__law_use : List Str := ["_law_draw", "_law_ahead", "_law_most", "_law_fit", "_law_number_here"]
theorem sc__law_use : FnScope N__law_use ["_law_draw", "_law_ahead", "_law_most"] (defScope s__law_use) := ⟨rfl, rfl, rfl, by decide +kernel, rfl, by decide +kernel, by decide +kernel⟩
theorem b__law_use (kV doc pm : Value) (an : Option Addr) (cdv ct : Value) (us : List Value) (hl : us.length = (["_law_draw", "_law_ahead", "_law_most"] : List Str).length) : bindArgs (PySem.W.fnOf "_law_use" "_law_use" (defArgs s__law_use) (defBody s__law_use) (defScope s__law_use) .none kV doc pm an cdv ct) ⟨us, []⟩ = pure ((["_law_draw", "_law_ahead", "_law_most"] : List Str).zip us) := match us, hl with | [_, _, _], _ => rfl
theorem ok_law_use (F : Fun K "_law_use" "_law_use" s__law_use f fd) (T : Tx w K mg) (F__law_next : Fc P w K mg base 1 "_law_next" spNextN) : FnR P w K mg base CX0 2 f spUse := by
  refine raw_of F sc__law_use b__law_use (fun vs H Q E h => by obtain ⟨_, _, _, _, _, _, _, _, _, rfl, _⟩ := h; rfl) (fun cdv A outer s H vs Q E hr h => ?_)
  obtain ⟨F, dw, na, ca, av, nm, cz, vis, most, rfl, dr, va, v1000, h4, q⟩ := h
  refine ⟨_, (pss_cons (ps_setLcF (ps_setLc (i := 3) (own := [("_law_number_here", 4)]) (g := gName 4)  rfl sc__law_use.nd rfl rfl (sw_true rfl rfl rfl (by decide +kernel)) (pi_seq (pv 1)) (blkOk_by (own := [("_law_number_here", 4)]) (N := N__law_use) (sc := defScope s__law_use) (by decide +kernel)) (fun _ _ _ _ _ => (pg_name (i := 4) sc__law_use.nd rfl (by first | exact Or.inl rfl | exact Or.inr rfl))) (fun _ _ _ _ _ => (pts_one (pt_cmpR op_le (pe_ix (ix_tupK (K' := K) rfl) (pv 4) pe_int (fun _ _ => rfl)) (pv 2) (nomark _)))) (fun _ _ _ _ _ => (pe_ix (ix_tupK (K' := K) rfl) (pv 4) pe_int (fun _ _ => rfl)))))
    (pss_cons (ps_if (PW.pt (pw_and (pt_cmpR op_gt (pe_callB call_len_seq (by rfl) T.f_len PySem.boot_len (pa_cons (pv 3) pa_nil)) pe_int (nomark _)) (pw_and1 (pt_cmpR op_eq (pe_cl F__law_next (hr.mono (by omega)) (pa_cons (pv 0) (pa_cons pe_int pa_nil))) pe_int (nomark _)))))
      (pss_one (ps_ret (pe_ix ix_list (pv 3) (pe_cl F__law_next (hr.mono (by omega)) (pa_cons (pv 0) (pa_cons (pe_callB call_len_seq (by rfl) T.f_len PySem.boot_len (pa_cons (pv 3) pa_nil)) pa_nil))) (fun _ _ => rfl))))
      pss_nil)
    (pss_one (ps_ret (pe_ix ix_list (pe_lst (pa_cons pe_int (pa_cons (pv 2) (pa_cons (pe_op op_add pe_int (pe_cl F__law_next (hr.mono (by omega)) (pa_cons (pv 0) (pa_cons pe_int pa_nil)))) pa_nil)))) (pe_cl F__law_next (hr.mono (by omega)) (pa_cons (pv 0) (pa_cons pe_int pa_nil))) (fun _ _ => rfl)))))), ?_⟩
  obtain ⟨g1, g2, g3, vs, hav, hvl⟩ := va
  have hlen := paired_len hvl
  refine sq ⟨_, rfl, av, rfl, .inl ⟨⟨vs, SqL.of hav⟩, lcf (SqL.of hav) (by omega) dr.sub (fun y => ∃ x lo hi, y = V.str x ∧ (x, lo, hi) ∈ vis ∧ 0 ≤ lo ∧ lo ≤ hi ∧ hi ≤ most) (fun x hx H' s k N hk hN => ?_) (fun D ys F1 H1 nD ef hD hl hR => ?_)⟩⟩
  · obtain ⟨i, hi⟩ := List.getElem?_of_mem hx
    obtain ⟨⟨qx, qlo, qhi⟩, hq1, a, sz, o, rfl, ha, h0, hle⟩ := paired_at hvl hi
    have hT : SqT K H' a _ := SqT.of (s _ _ (dr.sub _ _ ha))
    refine ⟨rfl, _, rfl, a, _, _, _, rfl, rfl, hT, at5, _, rfl, _, _, rfl, rfl, _, rfl, ite2 (fun c => ?_) (fun c => ?_)⟩
    · exact ⟨_, rfl, a, _, _, _, rfl, rfl, hT, at1, hk _ ⟨qx, qlo, qhi, rfl, List.mem_of_getElem? hq1, h0, hle, of_decide_eq_true c⟩⟩
    · exact hN
  have dr1 := dr.pure ef
  have hF : SqL K H1 D ys := SqL.of (ef.sub _ _ hD)
  have last : ∀ F2 H2 (nx bk ct : L2.St → Hp → Prop) (v4 : Option V), Eff [dw] F H F2 H2 → DrawAt F2 H2 dw na ca nm cz →
      tRet (tOp (rIxL K) (tLst (tCons (tC (.int 0)) (tCons (tVar 2) (tCons (tOp (rI0 fun i j => .int (i + j)) (tC (.int 1)) (tCl spNextN (tCons (tVar 0) (tCons (tC (.int 4)) tNil)))) tNil)))) (tCl spNextN (tCons (tVar 0) (tCons (tC (.int 3)) tNil)))) { nx := nx, rt := Q, bk := bk, ct := ct } [some (.ref dw), some (.ref av), some (.int most), some (.ref D), v4] H2 := by
    intro F2 H2 nx bk ct v4 e2 dr2
    refine ⟨_, rfl, _, rfl, F2, dw, na, ca, nm, cz, 4, rfl, dr2, by decide, fun n1 H3 a1 b1 e3 dr3 => ⟨_, _, rfl, rfl, (by show 3 ≤ sizeLine; decide), fun p hp => ?_⟩⟩
    have e13 := (e2.call e3 (fun m hm => .inl hm)).put hp (o := .lst [.int 0, .int most, .int (1 + n1)])
    have dr4 := dr3.pure ((Eff.refl dr3.sub).put hp (o := .lst [.int 0, .int most, .int (1 + n1)]))
    refine ⟨_, rfl, _, dw, na, ca, nm, cz, 3, rfl, dr4, by decide, fun n2 H5 a2 b2 e5 dr5 => ?_⟩
    obtain ⟨uv, huv, hum⟩ := pick_of (xs := [V.int 0, V.int most, V.int (1 + n1)]) a2 b2
    have hu : ∃ n, uv = V.int n ∧ 0 ≤ n ∧ n ≤ most := by
      simp only [List.mem_cons, List.not_mem_nil, or_false] at hum
      rcases hum with rfl | rfl | rfl
      · exact ⟨_, rfl, by omega, by omega⟩
      · exact ⟨_, rfl, by omega, by omega⟩
      · exact ⟨_, rfl, by omega, by omega⟩
    obtain ⟨n, rfl, n0, n1⟩ := hu
    exact ⟨p, _, _, _, rfl, rfl, e5.keepL upd_same, huv, q (.lit n) _ _ (e13.call e5 (fun m hm => .inl hm)) dr5 ⟨n0, n1⟩⟩
  have e1 : Eff [dw] F H F1 H1 := ef.more (by intro m hm; cases hm)
  refine sq ⟨_, rfl, D, _, rfl, .inl hF, _, _, rfl, rfl, _, rfl, ite2 (fun c => ?_) (fun c => ?_)⟩
  · refine ⟨_, rfl, F1, dw, na, ca, nm, cz, 2, rfl, dr1, by decide, fun n1 H2 a1 b1 e2 dr2 => ⟨rfl, _, rfl, ite2 (fun c2 => ?_) (fun c2 => ?_)⟩⟩
    · have e12 := e1.call e2 (fun m hm => .inl hm)
      have hF2 : SqL K H2 D ys := e2.keepL hD
      have lp : (0 : Int) < (ys.length : Nat) := of_decide_eq_true c
      refine ⟨_, rfl, _, rfl, _, rfl, D, _, rfl, .inl hF2, F1, dw, na, ca, nm, cz, _, rfl, dr2, lp, fun n2 H3 a2 b2 e3 dr3 => ?_⟩
      obtain ⟨yv, hyv, hym⟩ := pick_of a2 b2
      obtain ⟨x, lo, hi, rfl, h5, h6, h7, h8⟩ := hR yv hym
      exact ⟨D, _, _, _, rfl, rfl, e3.keepL hD, hyv, q (.nam x) _ _ (e12.call e3 (fun m hm => .inl hm)) dr3 ⟨lo, hi, h5, h6, h7, h8⟩⟩
    · exact last F1 H2 _ _ _ _ (e1.call e2 (fun m hm => .inl hm)) dr2
  · exact iteF (last F1 H1 _ _ _ _ e1 dr1)
end
end K6
set_option Elab.async false
set_option linter.all false
set_option maxRecDepth 100000
set_option maxHeartbeats 4000000
namespace K6
open PySem PySem.Spec PyProof.Rows L2
theorem for_range {n : Nat} {lo : Int} {g : TG} {tb : TS} {D : Ends} {σ : L2.St} {H : Hp} (Pv : Nat → L2.St → Hp → Prop) (h0 : Pv 0 σ H)
    (hs : ∀ i σ H, i < n → Pv i σ H → g (.int (lo + i)) σ H fun σ2 H2 => tb { D with nx := Pv (i + 1), ct := Pv (i + 1), bk := D.nx } σ2 H2) (hd : ∀ σ H, Pv n σ H → D.nx σ H) : Lp (Itr lo n) g tb D σ H := by
  refine ⟨fun i m σ H => i + m = n ∧ Pv i σ H, ⟨n, Nat.zero_add _, h0⟩, ?_⟩
  rintro i m σ H ⟨him, hp⟩
  cases m with
  | zero =>
    have : i = n := by omega
    subst this
    exact .inl ⟨Nat.le_refl _, hd σ H hp⟩
  | succ m =>
    refine .inr ⟨(show i < n by omega), Pv (i + 1), fun σ' H' h => ⟨m, Nat.lt_succ_self _, by omega, h⟩, ?_⟩
    rintro v H' ⟨rfl, rfl⟩
    exact hs i σ H' (by omega) hp
theorem okL_snoc {d : Nat} {ok : Env1 → Itm d → Prop} {x : Itm d} : ∀ {vis : Env1} {l : List (Itm d)}, OkL ok vis l → ok (vis ++ l.flatMap (numOf d)) x → OkL ok vis (l ++ [x])
  | vis, [], _, h => by
    rw [List.flatMap_nil, List.append_nil] at h
    exact ⟨h, trivial⟩
  | vis, y :: l, h1, h => by
    refine ⟨h1.1, okL_snoc h1.2 ?_⟩
    rw [List.flatMap_cons, ← List.append_assoc] at h
    exact h
section
variable {P : Program} {w : World} {K : PySem.W.Frag} {mg : Str → Option Value} {base : Heap} {f : Addr} {fd : FuncData}
def spItemsG (d : Nat) : Sp := fun vs H Q _ => ∃ (F : Hp) (dw na ca av : Addr) (nm : List Str) (cz : Nat) (vis : Env1) (dp : Int) (many : Nat), vs = [.ref dw, .ref av, .int dp, .int many] ∧ DrawAt F H dw na ca nm cz ∧ VisAt F H av dw na ca vis ∧ (vis.length : Int) ≤ 13 * dp ∧ 1 ≤ d ∧ dp + d = 4 ∧ many ≤ 12 ∧ cz ≤ 1 ∧ (∀ x ∈ nm, isNameB x = true) ∧
  ∀ v l F' H' tk nm', Eff [dw, na, ca] F H F' H' → DrawAt F' H' dw na ca nm' (cz + chksL d l) → cz + chksL d l ≤ 1 → IsIts false F' d v l → OkL (OkI d) vis l → nm = tk ++ nm' → (nmsL d l).Perm tk → l.length ≤ many → (1 ≤ many → nm ≠ [] → l ≠ []) → Q v H'
def spItemG (d : Nat) : Sp := fun vs H Q _ => ∃ (F : Hp) (dw na ca av : Addr) (nm : List Str) (cz : Nat) (vis : Env1) (dp : Int), vs = [.ref dw, .ref av, .int dp] ∧ DrawAt F H dw na ca nm cz ∧ VisAt F H av dw na ca vis ∧ (vis.length : Int) ≤ 13 * dp + 12 ∧ dp + (d + 1) = 4 ∧ cz ≤ 1 ∧ (∀ x ∈ nm, isNameB x = true) ∧ nm ≠ [] ∧
  ∀ v x F' H' tk nm', Eff [dw, na, ca] F H F' H' → DrawAt F' H' dw na ca nm' (cz + chks (d + 1) x) → cz + chks (d + 1) x ≤ 1 → IsIt false F' (d + 1) v x → OkI (d + 1) vis x → nm = tk ++ nm' → (nms (d + 1) x).Perm tk → Q v H'
abbrev s__law_items : Stmt := top 54
abbrev N__law_items : List Str := ["_law_draw", "_law_ahead", "_law_depth", "_law_many", "_law_items_here", "_law_visible", "_law_k", "_law_item_here"]
theorem sc__law_items : FnScope N__law_items ["_law_draw", "_law_ahead", "_law_depth", "_law_many"] (defScope s__law_items) := ⟨rfl, rfl, rfl, by decide +kernel, rfl, by decide +kernel, by decide +kernel⟩
theorem b__law_items (kV doc pm : Value) (an : Option Addr) (cdv ct : Value) (us : List Value) (hl : us.length = (["_law_draw", "_law_ahead", "_law_depth", "_law_many"] : List Str).length) : bindArgs (PySem.W.fnOf "_law_items" "_law_items" (defArgs s__law_items) (defBody s__law_items) (defScope s__law_items) .none kV doc pm an cdv ct) ⟨us, []⟩ = pure ((["_law_draw", "_law_ahead", "_law_depth", "_law_many"] : List Str).zip us) := match us, hl with | [_, _, _, _], _ => rfl
theorem ok_law_items {d k : Nat} (F : Fun K "_law_items" "_law_items" s__law_items f fd) (T : Tx w K mg) (F__law_item : Fc P w K mg base k "_law_item" (spItemG d)) : FnR P w K mg base CX0 (k + 1) f (spItemsG (d + 1)) := by
  refine raw_of F sc__law_items b__law_items (fun vs H Q E h => by obtain ⟨_, _, _, _, _, _, _, _, _, _, rfl, _⟩ := h; rfl) (fun cdv A outer s H vs Q E hr h => ?_)
  obtain ⟨F, dw, na, ca, av, nm, cz, vis, dp, many, rfl, dr, va, v13, d1, dp4, m12, c1, hnm, q⟩ := h
  refine ⟨_, (pss_cons (ps_set (i := 4) sc__law_items.nd rfl (by first | exact Or.inl rfl | exact Or.inr rfl) (pe_lst pa_nil))
    (pss_cons (ps_set (i := 5) sc__law_items.nd rfl (by first | exact Or.inl rfl | exact Or.inr rfl) (pe_callTy call_list_of (by rfl) T.f_list (by decide +kernel) (pa_cons (pv 1) pa_nil)))
    (pss_cons (ps_for PassesOwn.never rfl (pi_range1 (by rfl) T.f_range (pa_cons (pv 3) pa_nil)) (pg_name (i := 6) sc__law_items.nd rfl (by first | exact Or.inl rfl | exact Or.inr rfl))
      (pss_one (ps_if (pt_cmpR op_gt (pe_callB call_len_seq (by rfl) T.f_len PySem.boot_len (pa_cons (pe_ix ix_list (pv 0) pe_int (fun _ _ => rfl)) pa_nil)) pe_int (nomark _))
        (pss_cons (ps_set (i := 7) sc__law_items.nd rfl (by first | exact Or.inl rfl | exact Or.inr rfl) (pe_cl F__law_item (hr.mono (by omega)) (pa_cons (pv 0) (pa_cons (pv 5) (pa_cons (pv 2) pa_nil)))))
        (pss_cons (ps_expr (pe_bm PySem.F.plainAttrs_list PySem.F.slot_list_append PySem.F.type_list_append mt_append (pv 4) (pa_cons (pv 7) pa_nil)))
        (pss_one (ps_if (pt_cmpR op_eq (pe_ix ix_tup (pv 7) pe_int (fun _ _ => rfl)) pe_str (nomark _))
          (pss_one (ps_expr (pe_bm PySem.F.plainAttrs_list PySem.F.slot_list_append PySem.F.type_list_append mt_append (pv 5) (pa_cons (pv 7) pa_nil))))
          pss_nil))))
        pss_nil)))
    (pss_one (ps_ret (pv 4)))))), ?_⟩
  obtain ⟨g1, g2, g3, vvs, hav, hvl⟩ := va
  refine sq ⟨Nat.zero_le _, fun il hil => ?_⟩
  have e1 := (Eff.refl dr.sub (M := [dw, na, ca])).loc hil (o := .lst [])
  have fil : F il = none := dr.sub.free hil
  obtain ⟨i1, i2, i3⟩ := dr.new hil
  have dr1 := dr.other (o := .lst []) i1 i2 i3 fil
  have hav1 : (upd H il (.lst [])) av = _ := (upd_ne (ne_of_none hav hil)).trans hav
  dsimp only
  refine sq ⟨_, rfl, av, _, rfl, .inl (SqL.of hav1), fun vl hvl1 => ?_⟩
  have e2 := e1.loc hvl1 (o := .lst vvs)
  have fvl : F vl = none := dr1.sub.free hvl1
  obtain ⟨j1, j2, j3⟩ := dr1.new hvl1
  have dr2 := dr1.other (o := .lst vvs) j1 j2 j3 fvl
  have hvl0 : H vl = none := e1.none hvl1
  have ilvl : il ≠ vl := ne_of_none upd_same hvl1
  dsimp only
  refine sq ⟨_, rfl, many, rfl, by omega, by omega, for_range (n := many) (fun i σ H' => ∃ v6 v7 F' ys l tk nm', σ = [some (.ref dw), some (.ref av), some (.int dp), some (.int many), some (.ref il), some (.ref vl), v6, v7] ∧ Eff [dw, na, ca] F H F' H' ∧ DrawAt F' H' dw na ca nm' (cz + chksL (d + 1) l) ∧ cz + chksL (d + 1) l ≤ 1 ∧ F' il = none ∧ H' il = some (.lst ys) ∧ F' vl = none ∧
    Paired (IsIt false F' (d + 1)) ys l ∧ VisAt F' H' vl dw na ca (vis ++ l.flatMap (numOf (d + 1))) ∧ OkL (OkI (d + 1)) vis l ∧ nm = tk ++ nm' ∧ (nmsL (d + 1) l).Perm tk ∧ l.length ≤ i ∧ (1 ≤ i → nm ≠ [] → l ≠ [])) ?_ ?_ ?_⟩
  · refine ⟨_, _, F, [], [], [], nm, rfl, e2, dr2, c1, fil, (upd_ne ilvl).trans upd_same, fvl, .nil, ⟨j1, j2, j3, vvs, upd_same, ?_⟩, trivial, rfl, .nil, Nat.le_refl _, fun h => absurd h (by decide)⟩
    rw [List.flatMap_nil, List.append_nil]
    exact hvl
  · rintro i σ H3 hi ⟨v6, v7, F3, ys, l, tk, nm3, rfl, e3, dr3, c3, fil3, hil3, fvl3, hps, va3, ok3, hnm3, hp3, hl3, hne3⟩
    obtain ⟨nu, pos, ns, ho, _⟩ := dr3.obj
    refine ⟨_, rfl, dw, _, _, _, rfl, rfl, SqL.of ho, at2, na, _, rfl, .inl (SqL.of dr3.nms), _, _, rfl, rfl, _, rfl, ite2 (fun c => ?_) (fun c => ?_)⟩
    · have nm3ne : nm3 ≠ [] := by
        intro z
        subst z
        exact absurd (of_decide_eq_true c) (by decide)
      have hnl : (l.flatMap (numOf (d + 1))).length ≤ l.length := by
        have z := sum_le (l := l) (f := fun y => (numOf (d + 1) y).length) (g := fun _ => 1) fun y _ => num_le y
        rw [sum_const] at z
        rw [List.length_flatMap]
        omega
      refine sq ⟨_, rfl, _, rfl, _, rfl, F3, dw, na, ca, vl, nm3, _, _, dp, rfl, dr3, va3, (by rw [List.length_append]; omega), by omega, c3, (fun x hx => hnm x (by rw [hnm3]; exact List.mem_append_right _ hx)), nm3ne, fun v x F4 H4 tk4 nm4 e4 dr4 c4 hx4 okx4 hnm4 hp4 => ?_⟩
      dsimp only
      have e34 := e3.call e4 (fun m hm => .inl hm)
      have mI : ∀ m, m ∈ [dw, na, ca] → m = dw ∨ m = na ∨ m = ca := fun m hm => by simpa using hm
      have hil4 : H4 il = _ := e4.keep _ _ hil3 (by simp [i1, i2, i3])
      have fil4 : F4 il = none := e4.fresh _ fil3 (by rw [hil3]; intro z; cases z)
      have va4 := va3.eff e4 mI
      have fvl4 : F4 vl = none := by
        obtain ⟨_, _, _, vs3, hv3, _⟩ := va3
        exact e4.fresh _ fvl3 (by rw [hv3]; intro z; cases z)
      have yl := paired_len hps
      refine sq ⟨_, rfl, .inl ⟨rfl, _, SqL.of hil4⟩, _, rfl, il, _, _, rfl, rfl, hil4, Nat.lt_of_le_of_lt (show ys.length ≤ 1000 by omega) (by decide), ?_⟩
      dsimp only
      have e5 := e34.wr fil4 (.inr hil) (o := .lst (ys ++ [v]))
      have dr5 := dr4.other (o := .lst (ys ++ [v])) i1 i2 i3 fil4
      have hil5 : (upd H4 il (.lst (ys ++ [v]))) il = _ := upd_same
      have va5 : VisAt F4 (upd H4 il (.lst (ys ++ [v]))) vl dw na ca (vis ++ l.flatMap (numOf (d + 1))) := by
        obtain ⟨w1, w2, w3, vs4, hv4, hvl4⟩ := va4
        exact ⟨w1, w2, w3, vs4, (upd_ne ilvl.symm).trans hv4, hvl4⟩
      generalize upd H4 il (.lst (ys ++ [v])) = H5 at *
      have hx0 := hx4
      obtain ⟨a, w', ea, ht⟩ := isIt_tup hx4
      subst ea
      have hT : SqT K H5 a _ := SqT.of (e5.sub _ _ ht)
      have hps5 : Paired (IsIt false F4 (d + 1)) (ys ++ [V.ref a]) (l ++ [x]) := Paired.snoc (paired_mono (fun _ _ h => isIt_mono e4.same (d + 1) _ _ h) hps) hx0
      have ok5 := okL_snoc ok3 okx4
      have eqc : cz + chksL (d + 1) (l ++ [x]) = cz + chksL (d + 1) l + chks (d + 1) x := by
        have z1 : chksL (d + 1) (l ++ [x]) = chksL (d + 1) l + chks (d + 1) x := by
          rw [chksL, List.map_append, List.sum_append, List.map_cons, List.map_nil, List.sum_cons, List.sum_nil]
          rfl
        rw [z1, Nat.add_assoc]
      have hnm5 : nm = (tk ++ tk4) ++ nm4 := by rw [hnm3, hnm4, List.append_assoc]
      have hp5 : (nmsL (d + 1) (l ++ [x])).Perm (tk ++ tk4) := by
        rw [nmsL, List.flatMap_append, List.flatMap_singleton]
        exact hp3.append hp4
      have hl5 : (l ++ [x]).length ≤ i + 1 := by rw [List.length_append, List.length_singleton]; omega
      have hne5 : l ++ [x] ≠ [] := by simp
      have hv5 : vis ++ (l ++ [x]).flatMap (numOf (d + 1)) = (vis ++ l.flatMap (numOf (d + 1))) ++ ItF.num x := by
        rw [List.flatMap_append, List.flatMap_singleton, List.append_assoc]
        rfl
      rcases num_or x with ⟨y, sz, o, lo, hi, rfl⟩ | ⟨hn, hkx⟩
      · have hx6 : F4 a = some (.tup [.str "number", .str y, .int sz, .str o, .int lo, .int hi]) := by
          obtain ⟨a', ea', h'⟩ := hx0
          cases ea'
          exact h'
        have okp : OkP (vis ++ l.flatMap (numOf (d + 1))) (.number y sz o lo hi) := okx4.2
        refine r_kY rfl hT ?_
        obtain ⟨w1, w2, w3, vs5, hv5', hvl5⟩ := va5
        have vl5 := paired_len hvl5
        refine ⟨_, rfl, .inl ⟨rfl, _, SqL.of hv5'⟩, _, rfl, vl, _, _, rfl, rfl, hv5', Nat.lt_of_le_of_lt (show vs5.length ≤ 1000 by rw [vl5, List.length_append]; omega) (by decide), ?_⟩
        refine ⟨_, _, F4, ys ++ [V.ref a], l ++ [_], tk ++ tk4, nm4, rfl, e5.wr fvl4 (.inr hvl0), (by rw [eqc]; exact dr5.other w1 w2 w3 fvl4), (by rw [eqc]; exact c4), fil4, (upd_ne ilvl).trans hil5, fvl4, hps5, ⟨w1, w2, w3, _, upd_same, ?_⟩, ok5, hnm5, hp5, hl5, fun _ _ => hne5⟩
        rw [hv5]
        exact Paired.snoc hvl5 ⟨a, sz, o, rfl, hx6, okp.2.2.1, okp.2.2.2⟩
      · refine r_kN rfl hT hkx ?_
        refine ⟨_, _, F4, ys ++ [V.ref a], l ++ [_], tk ++ tk4, nm4, rfl, e5, (by rw [eqc]; exact dr5), (by rw [eqc]; exact c4), fil4, hil5, fvl4, hps5, (by rw [hv5, hn, List.append_nil]; exact va5), ok5, hnm5, hp5, hl5, fun _ _ => hne5⟩
    · have nm30 : nm3 = [] := by
        cases nm3 with
        | nil => rfl
        | cons x r => exact absurd (decide_eq_true (by rw [List.length_map, List.length_cons]; omega)) c
      subst nm30
      refine ⟨_, _, F3, ys, l, tk, [], rfl, e3, dr3, c3, fil3, hil3, fvl3, hps, va3, ok3, hnm3, hp3, by omega, fun _ hne => ?_⟩
      intro z
      subst z
      have z1 := hp3.length_eq
      have z2 : tk = [] := List.length_eq_zero_iff.mp z1.symm
      rw [z2] at hnm3
      exact hne hnm3
  · rintro σ H3 ⟨v6, v7, F3, ys, l, tk, nm3, rfl, e3, dr3, c3, fil3, hil3, fvl3, hps, va3, ok3, hnm3, hp3, hl3, hne3⟩
    refine ⟨_, rfl, q _ l (upd F3 il (.lst ys)) H3 tk nm3 (e3.frz hil hil3) ?_ c3 ⟨il, ys, rfl, upd_same, paired_mono (fun _ _ h => isIt_mono (same_new fil3 _) (d + 1) _ _ h) hps, by omega⟩ ok3 hnm3 hp3 hl3 hne3⟩
    obtain ⟨nu, pos, ns, h1, h2, h3, h4⟩ := dr3.obj
    have sf := same_new fil3 (.lst ys)
    exact ⟨(e3.frz hil hil3).sub, ⟨nu, pos, ns, h1, h2, sf _ _ h3, h4⟩, dr3.nms, dr3.chk, (upd_ne i1.symm).trans dr3.fd, (upd_ne i2.symm).trans dr3.fn, (upd_ne i3.symm).trans dr3.fc, dr3.n1, dr3.n2, dr3.n3⟩
end
end K6
set_option Elab.async false
set_option linter.all false
set_option maxRecDepth 100000
set_option maxHeartbeats 4000000
namespace K6
open PySem PySem.Spec PyProof.Rows L2
theorem m1_in {dw na ca : Addr} : ∀ m ∈ [dw], m ∈ [dw, na, ca] ∨ (none : Option HO) = some (.lst []) := fun m hm => .inl (by rw [List.mem_singleton.mp hm]; simp)
theorem mIn {dw na ca : Addr} : ∀ m, m ∈ [dw, na, ca] → m = dw ∨ m = na ∨ m = ca := fun m hm => by simpa using hm
theorem mIn1 {dw na ca : Addr} : ∀ m, m ∈ [dw] → m = dw ∨ m = na ∨ m = ca := fun m hm => .inl (List.mem_singleton.mp hm)
theorem Eff.up {F H F' H' : Hp} {dw na ca : Addr} (e : Eff [dw] F H F' H') : Eff [dw, na, ca] F H F' H' := e.more (by intro m hm; rw [List.mem_singleton.mp hm]; simp)
section
variable {P : Program} {w : World} {K : PySem.W.Frag} {mg : Str → Option Value} {base : Heap} {f : Addr} {fd : FuncData}
def spBlockG (d : Nat) : Sp := fun vs H Q _ => ∃ (F : Hp) (dw na ca av : Addr) (nm : List Str) (cz : Nat) (vis : Env1) (dp : Int) (x : Str), vs = [.ref dw, .ref av, .int dp, .str x] ∧ DrawAt F H dw na ca nm cz ∧ VisAt F H av dw na ca vis ∧ (vis.length : Int) + 1 ≤ 13 * dp ∧ 1 ≤ d ∧ dp + d = 4 ∧ cz ≤ 1 ∧ (∀ x ∈ nm, isNameB x = true) ∧ (x = "" ∨ isNameB x = true) ∧
  ∀ v b F' H' tk nm', Eff [dw, na, ca] F H F' H' → DrawAt F' H' dw na ca nm' (cz + chksL d b) → cz + chksL d b ≤ 1 → IsIts false F' d v b → OkL (OkI d) vis b → b.length ≤ 12 → nm = tk ++ nm' → (nmsL d b).Perm ((if x = "" then [] else [x]) ++ tk) → (x ≠ "" → BeginsD d b) → Q v H'
abbrev s__law_block : Stmt := top 51
abbrev N__law_block : List Str := ["_law_draw", "_law_ahead", "_law_depth", "_law_name", "_law_many", "_law_number_here"]
theorem sc__law_block : FnScope N__law_block ["_law_draw", "_law_ahead", "_law_depth", "_law_name"] (defScope s__law_block) := ⟨rfl, rfl, rfl, by decide +kernel, rfl, by decide +kernel, by decide +kernel⟩
theorem b__law_block (kV doc pm : Value) (an : Option Addr) (cdv ct : Value) (us : List Value) (hl : us.length = (["_law_draw", "_law_ahead", "_law_depth", "_law_name"] : List Str).length) : bindArgs (PySem.W.fnOf "_law_block" "_law_block" (defArgs s__law_block) (defBody s__law_block) (defScope s__law_block) .none kV doc pm an cdv ct) ⟨us, []⟩ = pure ((["_law_draw", "_law_ahead", "_law_depth", "_law_name"] : List Str).zip us) := match us, hl with | [_, _, _, _], _ => rfl
theorem ok_law_block {d k : Nat} (F : Fun K "_law_block" "_law_block" s__law_block f fd) (T : Tx w K mg) (F__law_next : Fc P w K mg base 1 "_law_next" spNextN) (F__law_number : Fc P w K mg base 2 "_law_number" spNumber) (F__law_items : Fc P w K mg base k "_law_items" (spItemsG (d + 1))) (hk2 : 2 ≤ k) : FnR P w K mg base CX0 (k + 1) f (spBlockG (d + 1)) := by
  refine raw_of F sc__law_block b__law_block (fun vs H Q E h => by obtain ⟨_, _, _, _, _, _, _, _, _, _, rfl, _⟩ := h; rfl) (fun cdv A outer s H vs Q E hr h => ?_)
  obtain ⟨F, dw, na, ca, av, nm, cz, vis, dp, x, rfl, dr, va, v13, d1, dp4, c1, hnm, hx, q⟩ := h
  refine ⟨_, (pss_cons (ps_set (i := 4) sc__law_block.nd rfl (by first | exact Or.inl rfl | exact Or.inr rfl) (pe_cl F__law_next (hr.mono (by omega)) (pa_cons (pv 0) (pa_cons pe_int pa_nil))))
    (pss_cons (ps_if (pt_cmpR op_ne (pv 3) pe_str (nomark _))
      (pss_cons (ps_set (i := 5) sc__law_block.nd rfl (by first | exact Or.inl rfl | exact Or.inr rfl) (pe_cl F__law_number (hr.mono (by omega)) (pa_cons (pv 0) (pa_cons (pv 3) pa_nil))))
      (pss_one (ps_ret (pe_op op_cat (pe_lst (pa_cons (pv 5) pa_nil)) (pe_cl F__law_items (hr.mono (by omega)) (pa_cons (pv 0) (pa_cons (pe_op op_cat (pv 1) (pe_lst (pa_cons (pv 5) pa_nil))) (pa_cons (pv 2) (pa_cons (pv 4) pa_nil)))))))))
      pss_nil)
    (pss_one (ps_ret (pe_cl F__law_items (hr.mono (by omega)) (pa_cons (pv 0) (pa_cons (pv 1) (pa_cons (pv 2) (pa_cons (pv 4) pa_nil))))))))), ?_⟩
  refine sq ⟨_, rfl, F, dw, na, ca, nm, cz, 3, rfl, dr, by decide, fun n H1 a1 b1 e1 dr1 => ?_⟩
  dsimp only
  have va1 := va.eff e1 mIn1
  have e1' : Eff [dw, na, ca] F H F H1 := e1.up
  obtain ⟨many, rfl⟩ := Int.eq_ofNat_of_zero_le a1
  have m3 : many < 3 := by omega
  by_cases xe : x = ""
  · subst xe
    refine sq ⟨_, rfl, rfl, _, rfl, ?_⟩
    rw [show (!decide (V.str "" = V.str "")) = false by rw [decide_eq_true rfl]; rfl]
    refine iteF ⟨_, rfl, _, rfl, _, rfl, _, rfl, F, dw, na, ca, av, nm, cz, vis, dp, many, rfl, dr1, va1, by omega, d1, dp4, by omega, c1, hnm, fun v l F2 H2 tk nm2 e2 dr2 c2 hl ok hn hp hlen _ => ?_⟩
    exact q v l F2 H2 tk nm2 (e1'.call e2 (fun m hm => .inl hm)) dr2 c2 hl ok (by omega) hn (by rw [if_pos rfl]; exact hp) fun h => absurd rfl h
  · have hx2 : isNameB x = true := hx.resolve_left xe
    refine sq ⟨_, rfl, rfl, _, rfl, ?_⟩
    rw [show (!decide (V.str x = V.str "")) = true by rw [decide_eq_false fun z => xe (V.str.inj z)]; rfl]
    refine iteT (sq ⟨_, rfl, _, rfl, F, dw, na, ca, nm, cz, x, rfl, dr1, fun t F2 H2 sz o lo hi e2 dr2 ht okp => ?_⟩)
    dsimp only
    have e12 : Eff [dw, na, ca] F H F2 H2 := e1'.call e2 (fun m hm => .inl (by rw [List.mem_singleton.mp hm]; simp))
    have va2 := va1.eff e2 mIn1
    refine ⟨_, rfl, (by show 1 ≤ sizeLine; decide), fun p1 hp1 => ?_⟩
    have e3 := e12.put hp1 (o := .lst [.ref t])
    have eA : Eff [] F2 H2 (upd F2 p1 (.lst [.ref t])) (upd H2 p1 (.lst [.ref t])) := (Eff.refl dr2.sub).put hp1
    have dr3 := dr2.pure eA
    have va3 := va2.eff eA (by intro m hm; cases hm)
    have hP1 : (upd F2 p1 (.lst [.ref t])) p1 = some (.lst [.ref t]) := upd_same
    generalize (upd F2 p1 (.lst [.ref t])) = F3 at *
    generalize (upd H2 p1 (.lst [.ref t])) = H3 at *
    obtain ⟨w1, w2, w3, vs3, hav3, hvl3⟩ := va3
    refine ⟨_, rfl, _, rfl, _, rfl, (by show 1 ≤ sizeLine; decide), fun p2 hp2 => ?_⟩
    have hav4 : (upd H3 p2 (.lst [.ref t])) av = _ := (upd_ne (ne_of_none hav3 hp2)).trans hav3
    have vlen := paired_len hvl3
    refine ⟨av, p2, _, _, rfl, rfl, hav4, upd_same, small (by show vs3.length + 1 ≤ 1000; omega), fun p3 hp3 => ?_⟩
    have e5 := (e3.put hp2 (o := .lst [.ref t])).put hp3 (o := .lst (vs3 ++ [.ref t]))
    have eB : Eff [] F3 H3 _ _ := ((Eff.refl dr3.sub).put hp2 (o := .lst [.ref t])).put hp3 (o := .lst (vs3 ++ [.ref t]))
    have dr5 := dr3.pure eB
    obtain ⟨y1, y2, y3⟩ := (dr3.pure ((Eff.refl dr3.sub).put hp2 (o := .lst [.ref t]))).new hp3
    have s25 : Same F2 _ := eA.same.trans eB.same
    have va5 : VisAt _ (upd (upd H3 p2 (.lst [.ref t])) p3 (.lst (vs3 ++ [.ref t]))) p3 dw na ca (vis ++ [(x, lo, hi)]) := ⟨y1, y2, y3, _, upd_same, Paired.snoc (visL_mono eB.same hvl3) ⟨t, sz, o, rfl, s25 _ _ ht, (okp []).2.2.1, (okp []).2.2.2⟩⟩
    refine ⟨_, rfl, _, rfl, _, dw, na, ca, p3, nm, cz, vis ++ [(x, lo, hi)], dp, many, rfl, dr5, va5, (by rw [List.length_append, List.length_singleton]; omega), d1, dp4, by omega, c1, hnm, fun v l F6 H6 tk nm6 e6 dr6 c6 hl ok hn hp hlen _ => ?_⟩
    obtain ⟨b, ws, rfl, hb, hpw, hlw⟩ := hl
    have wl := paired_len hpw
    have hp16 : H6 p1 = _ := e6.sub _ _ (e6.same _ _ (eB.same _ _ hP1))
    refine ⟨p1, b, _, _, rfl, rfl, hp16, e6.sub _ _ hb, small (by show 1 + ws.length ≤ 1000; omega), fun p7 hp7 => ?_⟩
    have e7 := (e5.call e6 (fun m hm => .inl hm)).put hp7 (o := .lst ([V.ref t] ++ ws))
    have eC : Eff [] F6 H6 _ _ := (Eff.refl dr6.sub).put hp7 (o := .lst ([V.ref t] ++ ws))
    have num : Itm (d + 1) := ItF.pl (.number x sz o lo hi)
    refine q (.ref p7) ((ItF.pl (.number x sz o lo hi) : ItF (Itm d)) :: l) _ _ tk nm6 e7 ?_ ?_ ?_ ?_ ?_ hn ?_ ?_
    · have z : chksL (d + 1) ((ItF.pl (.number x sz o lo hi) : ItF (Itm d)) :: l) = chksL (d + 1) l := by
        show 0 + chksL (d + 1) l = _
        exact Nat.zero_add _
      rw [z]
      exact dr6.pure eC
    · have z : chksL (d + 1) ((ItF.pl (.number x sz o lo hi) : ItF (Itm d)) :: l) = chksL (d + 1) l := by
        show 0 + chksL (d + 1) l = _
        exact Nat.zero_add _
      rw [z]
      exact c6
    · refine ⟨p7, _, rfl, upd_same, .cons ⟨t, rfl, eC.same _ _ (e6.same _ _ (s25 _ _ ht))⟩ (paired_mono (fun _ _ h => isIt_mono eC.same (d + 1) _ _ h) hpw), ?_⟩
      show l.length + 1 ≤ 1000
      omega
    · exact ⟨⟨hx2, okp vis⟩, ok⟩
    · show l.length + 1 ≤ 12
      omega
    · rw [if_neg xe]
      exact hp.cons x
    · exact fun _ => trivial
end
end K6
set_option Elab.async false
set_option linter.all false
set_option maxRecDepth 100000
set_option maxHeartbeats 4000000
namespace K6
open PySem PySem.Spec PyProof.Rows L2
theorem pe_bmK {X : Cx} {K' : PySem.W.Frag} {e : Expr} {T : String} {r : V → List V → Hp → VK → Prop} {to : TE} {t : TA} (hK : X.K = K') (h : PE X e (tBM X.K T r to t)) : PE X e (tBM K' T r to t) := hK ▸ h
/-- a comprehension over a range, whose element draws -/
theorem lc_draw {F H : Hp} {dw na ca : Addr} {nm : List Str} {cz n : Nat} {lo : Int} {g : TG} {te : TE} {vs : List Nat} {σ : L2.St} {Q : VK} (dr : DrawAt F H dw na ca nm cz) (hz : n ≤ 1000)
    (R : Nat → Hp → List V → List Str → Nat → Prop) (mono : ∀ i F F' ys nm cz, Same F F' → R i F ys nm cz → R i F' ys nm cz) (r0 : R 0 F [] nm cz)
    (hs : ∀ (i : Nat) F' H' ys nm' cz', i < n → ys.length = i → Eff [dw, na, ca] F H F' H' → DrawAt F' H' dw na ca nm' cz' → R i F' ys nm' cz' → ∀ k : VK, (∀ y F'' H'' nm'' cz'', Eff [dw, na, ca] F' H' F'' H'' → DrawAt F'' H'' dw na ca nm'' cz'' → R (i + 1) F'' (ys ++ [y]) nm'' cz'' → k y H'') →
      g (.int (lo + i)) (wipe σ vs) H' fun σ2 H2 => wipe σ2 vs = wipe σ vs ∧ te σ2 H2 k)
    (hd : ∀ D ys F' H' nm' cz', H D = none → Eff [dw, na, ca] F H F' H' → DrawAt F' H' dw na ca nm' cz' → F' D = some (.lst ys) → ys.length = n → R n F' ys nm' cz' → Q (.ref D) H') : LcK (Itr lo n) g te vs σ H Q := by
  intro D nD
  obtain ⟨d1, d2, d3⟩ := dr.new nD
  refine ⟨fun i m H' => i + m = n ∧ ∃ ys F' nm' cz', Eff [dw, na, ca] F H F' H' ∧ DrawAt F' H' dw na ca nm' cz' ∧ F' D = none ∧ H' D = some (.lst ys) ∧ ys.length = i ∧ R i F' ys nm' cz', ⟨n, Nat.zero_add _, [], F, nm, cz, (Eff.refl dr.sub).loc nD, dr.other d1 d2 d3 (dr.sub.free nD), dr.sub.free nD, upd_same, rfl, r0⟩, ?_⟩
  rintro i m H' ⟨him, ys, F', nm', cz', e1, dr1, fD, hD, hl, hR⟩
  cases m with
  | zero =>
    have : i = n := by omega
    subst this
    refine .inl ⟨Nat.le_refl _, hd D ys (upd F' D (.lst ys)) H' nm' cz' nD (e1.frz nD hD) ?_ upd_same hl (mono _ _ _ _ _ _ (same_new fD _) hR)⟩
    obtain ⟨nu, pos, ns, h1, h2, h3, h4⟩ := dr1.obj
    exact ⟨(e1.frz nD hD).sub, ⟨nu, pos, ns, h1, h2, same_new fD _ _ _ h3, h4⟩, dr1.nms, dr1.chk, (upd_ne d1.symm).trans dr1.fd, (upd_ne d2.symm).trans dr1.fn, (upd_ne d3.symm).trans dr1.fc, dr1.n1, dr1.n2, dr1.n3⟩
  | succ m =>
    refine .inr ⟨(show i < n by omega), fun H'' => i + 1 + m = n ∧ ∃ ys F' nm' cz', Eff [dw, na, ca] F H F' H'' ∧ DrawAt F' H'' dw na ca nm' cz' ∧ F' D = none ∧ H'' D = some (.lst ys) ∧ ys.length = i + 1 ∧ R (i + 1) F' ys nm' cz', fun H'' h => ⟨m, Nat.lt_succ_self _, h⟩, ?_⟩
    rintro x H'' ⟨rfl, rfl⟩
    have q := hs i F' H'' ys nm' cz' (by omega) hl e1 dr1 hR (fun y H4 => ∃ acc, H4 D = some (.lst acc) ∧ acc.length < sizeLine ∧ (i + 1 + m = n ∧ ∃ ys F' nm' cz', Eff [dw, na, ca] F H F' (upd H4 D (.lst (acc ++ [y]))) ∧ DrawAt F' (upd H4 D (.lst (acc ++ [y]))) dw na ca nm' cz' ∧ F' D = none ∧ (upd H4 D (.lst (acc ++ [y]))) D = some (.lst ys) ∧ ys.length = i + 1 ∧ R (i + 1) F' ys nm' cz'))
      (fun y F4 H4 nm4 cz4 e4 dr4 r4 => by
        have h4 := e4.keep D _ hD (by simp [d1, d2, d3])
        have f4 : F4 D = none := e4.fresh D fD (by rw [hD]; intro z; cases z)
        exact ⟨ys, h4, Nat.lt_of_le_of_lt (show ys.length ≤ 1000 by omega) (by decide), by omega, ys ++ [y], F4, nm4, cz4, (e1.call e4 (fun m hm => .inl hm)).wr f4 (.inr nD), dr4.other d1 d2 d3 f4, f4, upd_same, by rw [List.length_append, List.length_singleton, hl], r4⟩)
    exact q
theorem r_pop {K : PySem.W.Frag} {σ : L2.St} {F H : Hp} {Q : VK} {dw na ca : Addr} {x : Str} {nm : List Str} {cz i : Nat} (hσ : σ[i]? = some (some (.ref dw))) (dr : DrawAt F H dw na ca (x :: nm) cz) (q : ∀ H', Eff [dw, na, ca] F H F H' → DrawAt F H' dw na ca nm cz → Q (.str x) H') :
    tBM K "list" rPopAt (tOp (rIxL K) (tVar i) (tC (.int 2))) (tCons (tC (.int 0)) tNil) σ H Q := by
  obtain ⟨nu, pos, ns, ho, _⟩ := dr.obj
  refine ⟨_, hσ, dw, _, _, _, rfl, rfl, SqL.of ho, at2, .inl ⟨rfl, _, SqL.of dr.nms⟩, na, _, 0, 0, _, rfl, rfl, dr.nms, by decide, by decide, ?_, rfl, q _ ((Eff.refl dr.sub).wr dr.fn (.inl (by simp))) dr.pop⟩
  rw [List.length_map, List.length_cons]
  unfold seqIndex?
  simp
theorem perm4 {α : Type} (a b c e : List α) : ((a ++ b) ++ (c ++ e)).Perm ((a ++ c) ++ (b ++ e)) := by
  rw [List.append_assoc, List.append_assoc]
  refine List.Perm.append_left a ?_
  rw [← List.append_assoc, ← List.append_assoc]
  exact List.Perm.append_right e List.perm_append_comm
theorem r_or6 {K : PySem.W.Frag} {σ : L2.St} {H : Hp} {kind : Int} {av : Addr} {vs : List V} {tA tB : TS} {D : Ends} (h3 : σ[3]? = some (some (.int kind))) (h1 : σ[1]? = some (some (.ref av))) (hS : SqL K H av vs) (qY : (kind = 6 ∨ vs.length = 0) → tA D σ H) (qN : kind ≠ 6 → vs.length ≠ 0 → tB D σ H) :
    tIfS (tOr (tTest (tOp rEq (tVar 3) (tC (.int 6)))) (tTest (tOp rEq (tCB (fun xs H Q => ∃ p ys, xs = [V.ref p] ∧ (SqL K H p ys ∨ SqT K H p ys) ∧ Q (.int (ys.length : Nat)) H) (tCons (tVar 1) tNil)) (tC (.int 0))))) tA tB D σ H := by
  refine ⟨_, h3, rfl, _, rfl, ?_⟩
  by_cases k6 : kind = 6
  · subst k6
    rw [decide_eq_true rfl]
    exact iteT (iteT (qY (.inl rfl)))
  · rw [decide_eq_false fun z => k6 (V.int.inj z)]
    refine iteF ⟨_, h1, av, vs, rfl, .inl hS, rfl, _, rfl, ?_⟩
    by_cases l0 : vs.length = 0
    · rw [l0]
      rw [show decide (V.int ((0 : Nat) : Int) = V.int 0) = true from decide_eq_true rfl]
      exact iteT (qY (.inr l0))
    · rw [decide_eq_false fun z => l0 (by have := V.int.inj z; omega)]
      exact iteF (qN k6 l0)
theorem nodup_inj {f : Nat → Int} : ∀ {l : List Nat}, l.Nodup → (∀ a ∈ l, ∀ b ∈ l, f a = f b → a = b) → (l.map f).Nodup
  | [], _, _ => .nil
  | a :: l, h, hf => by
    rw [List.nodup_cons] at h
    rw [List.map_cons, List.nodup_cons]
    refine ⟨fun z => ?_, nodup_inj h.2 fun x hx y hy => hf x (List.mem_cons_of_mem _ hx) y (List.mem_cons_of_mem _ hy)⟩
    obtain ⟨b, hb, e⟩ := List.mem_map.mp z
    have := hf b (List.mem_cons_of_mem _ hb) a List.mem_cons_self e
    rw [this] at hb
    exact h.1 hb
theorem steps_inj : ∀ st : Nat, st < 4 → ∀ a : Nat, a < 8 → ∀ b : Nat, b < 8 → (a * (1 + 2 * st)) % 8 = (b * (1 + 2 * st)) % 8 → a = b := by decide
section
variable {P : Program} {w : World} {K : PySem.W.Frag} {mg : Str → Option Value} {base : Heap} {f : Addr} {fd : FuncData}
def spNestedG (d : Nat) : Sp := fun vs H Q _ => ∃ (F : Hp) (dw na ca av : Addr) (nm : List Str) (cz : Nat) (vis : Env1) (dp kind : Int), vs = [.ref dw, .ref av, .int dp, .int kind] ∧ DrawAt F H dw na ca nm cz ∧ VisAt F H av dw na ca vis ∧ (vis.length : Int) ≤ 13 * dp + 12 ∧ 1 ≤ d ∧ dp + (d + 1) = 4 ∧ cz ≤ 1 ∧ (∀ x ∈ nm, isNameB x = true) ∧ 14 ≤ nm.length ∧
  ∀ v x F' H' tk nm', Eff [dw, na, ca] F H F' H' → DrawAt F' H' dw na ca nm' (cz + chks (d + 1) x) → cz + chks (d + 1) x ≤ 1 → IsIt false F' (d + 1) v x → OkI (d + 1) vis x → nm = tk ++ nm' → (nms (d + 1) x).Perm tk → Q v H'
abbrev s__law_nested : Stmt := top 52
abbrev N__law_nested : List Str := ["_law_draw", "_law_ahead", "_law_depth", "_law_kind", "_law_name", "_law_first", "_law_step", "_law_cases", "_law_firsts", "_law_choices", "_law_k"]
theorem sc__law_nested : FnScope N__law_nested ["_law_draw", "_law_ahead", "_law_depth", "_law_kind"] (defScope s__law_nested) := ⟨rfl, rfl, rfl, by decide +kernel, rfl, by decide +kernel, by decide +kernel⟩
theorem b__law_nested (kV doc pm : Value) (an : Option Addr) (cdv ct : Value) (us : List Value) (hl : us.length = (["_law_draw", "_law_ahead", "_law_depth", "_law_kind"] : List Str).length) : bindArgs (PySem.W.fnOf "_law_nested" "_law_nested" (defArgs s__law_nested) (defBody s__law_nested) (defScope s__law_nested) .none kV doc pm an cdv ct) ⟨us, []⟩ = pure ((["_law_draw", "_law_ahead", "_law_depth", "_law_kind"] : List Str).zip us) := match us, hl with | [_, _, _, _], _ => rfl
theorem ok_law_nested {d k : Nat} (F : Fun K "_law_nested" "_law_nested" s__law_nested f fd) (T : Tx w K mg) (F__law_next : Fc P w K mg base 1 "_law_next" spNextN) (F__law_use : Fc P w K mg base 2 "_law_use" spUse) (F__law_block : Fc P w K mg base k "_law_block" (spBlockG d)) (hk2 : 2 ≤ k) : FnR P w K mg base CX0 (k + 1) f (spNestedG d) := by
  refine raw_of F sc__law_nested b__law_nested (fun vs H Q E h => by obtain ⟨_, _, _, _, _, _, _, _, _, _, rfl, _⟩ := h; rfl) (fun cdv A outer s H vs Q E hr h => ?_)
  obtain ⟨F, dw, na, ca, av, nm, cz, vis, dp, kind, rfl, dr, va, v13, d1, dp4, c1, hnm, h14, q⟩ := h
  refine ⟨_, (pss_cons (ps_set (i := 4) sc__law_nested.nd rfl (by first | exact Or.inl rfl | exact Or.inr rfl) (pe_bm PySem.F.plainAttrs_list PySem.F.slot_list_pop PySem.F.type_list_pop mt_popAt (pe_ix ix_list (pv 0) pe_int (fun _ _ => rfl)) (pa_cons pe_int pa_nil)))
    (pss_cons (ps_if (pt_cmpR op_eq (pv 3) pe_int (nomark _))
      (pss_cons (ps_set (i := 5) sc__law_nested.nd rfl (by first | exact Or.inl rfl | exact Or.inr rfl) (pe_bm PySem.F.plainAttrs_list PySem.F.slot_list_pop PySem.F.type_list_pop mt_popAt (pe_ix ix_list (pv 0) pe_int (fun _ _ => rfl)) (pa_cons pe_int pa_nil)))
      (pss_one (ps_ret (pe_tup (pa_cons pe_str (pa_cons (pv 4) (pa_cons (pe_cl F__law_use (hr.mono (by omega)) (pa_cons (pv 0) (pa_cons (pv 1) (pa_cons pe_int pa_nil)))) (pa_cons (pe_cl F__law_block (hr.mono (by omega)) (pa_cons (pv 0) (pa_cons (pv 1) (pa_cons (pe_op op_add (pv 2) pe_int) (pa_cons (pv 5) pa_nil))))) pa_nil))))))))
      pss_nil)
    (pss_cons (ps_if (PW.pt (pw_or (pt_cmpR op_eq (pv 3) pe_int (nomark _)) (pw_or1 (pt_cmpR op_eq (pe_callB call_len_seq (by rfl) T.f_len PySem.boot_len (pa_cons (pv 1) pa_nil)) pe_int (nomark _)))))
      (pss_cons (ps_setLcs (ps_setLc (i := 8) (own := [("_law_k", 10)]) (g := gName 10) (tt := tYes) rfl sc__law_nested.nd rfl rfl (sw_true rfl rfl rfl (by decide +kernel)) (pi_range1 (by rfl) T.f_range (pa_cons (pe_op op_add pe_int (pe_cl F__law_next (hr.mono (by omega)) (pa_cons (pv 0) (pa_cons pe_int pa_nil)))) pa_nil)) (blkOk_by (own := [("_law_k", 10)]) (N := N__law_nested) (sc := defScope s__law_nested) (by decide +kernel)) (fun _ _ _ _ _ => (pg_name (i := 10) sc__law_nested.nd rfl (by first | exact Or.inl rfl | exact Or.inr rfl))) (fun _ _ _ _ _ => pts_nil) (fun _ _ _ _ _ => (pe_bmK (K' := K) rfl (pe_bm PySem.F.plainAttrs_list PySem.F.slot_list_pop PySem.F.type_list_pop mt_popAt (pe_ix (ix_listK (K' := K) rfl) (pv 0) pe_int (fun _ _ => rfl)) (pa_cons pe_int pa_nil))))))
      (pss_cons (ps_set (i := 9) sc__law_nested.nd rfl (by first | exact Or.inl rfl | exact Or.inr rfl) (pe_lst (pa_cons (pe_cl F__law_block (hr.mono (by omega)) (pa_cons (pv 0) (pa_cons (pv 1) (pa_cons (pe_op op_add (pv 2) pe_int) (pa_cons pe_str pa_nil))))) pa_nil)))
      (pss_cons (ps_for PassesOwn.never rfl (pi_seq (pv 8)) (pg_name (i := 5) sc__law_nested.nd rfl (by first | exact Or.inl rfl | exact Or.inr rfl))
        (pss_one (ps_expr (pe_bm PySem.F.plainAttrs_list PySem.F.slot_list_append PySem.F.type_list_append mt_append (pv 9) (pa_cons (pe_cl F__law_block (hr.mono (by omega)) (pa_cons (pv 0) (pa_cons (pv 1) (pa_cons (pe_op op_add (pv 2) pe_int) (pa_cons (pv 5) pa_nil))))) pa_nil)))))
      (pss_one (ps_ret (pe_tup (pa_cons pe_str (pa_cons (pv 4) (pa_cons (pv 9) pa_nil)))))))))
      pss_nil)
    (pss_cons (ps_set (i := 5) sc__law_nested.nd rfl (by first | exact Or.inl rfl | exact Or.inr rfl) (pe_cl F__law_next (hr.mono (by omega)) (pa_cons (pv 0) (pa_cons pe_int pa_nil))))
    (pss_cons (ps_set (i := 6) sc__law_nested.nd rfl (by first | exact Or.inl rfl | exact Or.inr rfl) (pe_op op_add pe_int (pe_op op_mul pe_int (pe_cl F__law_next (hr.mono (by omega)) (pa_cons (pv 0) (pa_cons pe_int pa_nil))))))
    (pss_cons (ps_setLcs (ps_setLc (i := 7) (own := [("_law_k", 10)]) (g := gName 10) (tt := tYes) rfl sc__law_nested.nd rfl rfl (sw_true rfl rfl rfl (by decide +kernel)) (pi_range1 (by rfl) T.f_range (pa_cons (pe_op op_add pe_int (pe_cl F__law_next (hr.mono (by omega)) (pa_cons (pv 0) (pa_cons pe_int pa_nil)))) pa_nil)) (blkOk_by (own := [("_law_k", 10)]) (N := N__law_nested) (sc := defScope s__law_nested) (by decide +kernel)) (fun _ _ _ _ _ => (pg_name (i := 10) sc__law_nested.nd rfl (by first | exact Or.inl rfl | exact Or.inr rfl))) (fun _ _ _ _ _ => pts_nil) (fun _ _ _ _ _ => (pe_tup (pa_cons (pe_op op_add (pv 5) (pe_op op_mul pe_int (pe_op op_mod (pe_callTy call_int1 (by rfl) T.f_int (by decide +kernel) (pa_cons (pe_op op_mul (pv 10) (pv 6)) pa_nil)) pe_int))) (pa_cons (pe_cl F__law_block (hr.mono (by omega)) (pa_cons (pv 0) (pa_cons (pv 1) (pa_cons (pe_op op_add (pv 2) pe_int) (pa_cons pe_str pa_nil))))) pa_nil))))))
    (pss_one (ps_ret (pe_tup (pa_cons pe_str (pa_cons (pv 4) (pa_cons (pe_ix ix_tup (pe_ix ix_list (pv 1) (pe_cl F__law_next (hr.mono (by omega)) (pa_cons (pv 0) (pa_cons (pe_callB call_len_seq (by rfl) T.f_len PySem.boot_len (pa_cons (pv 1) pa_nil)) pa_nil))) (fun _ _ => rfl)) pe_int (fun _ _ => rfl)) (pa_cons (pv 7) pa_nil))))))))))))), ?_⟩
  have nEE : ("" : Str) ≠ "" → False := fun h => h rfl
  obtain ⟨n0, nm1, rfl⟩ : ∃ n0 nm1, nm = n0 :: nm1 := by
    cases nm with
    | nil => exact absurd h14 (by simp)
    | cons a r => exact ⟨a, r, rfl⟩
  have hn0 := hnm n0 List.mem_cons_self
  have hnm1 : ∀ x ∈ nm1, isNameB x = true := fun x hx => hnm x (List.mem_cons_of_mem _ hx)
  refine sq (r_pop (i := 0) rfl dr fun H1 e1 dr1 => ?_)
  dsimp only
  have va1 := va.eff e1 mIn
  by_cases k5 : kind = 5
  · subst k5
    obtain ⟨f0, nm2, rfl⟩ : ∃ n0 nm2, nm1 = n0 :: nm2 := by
      cases nm1 with
      | nil => exact absurd h14 (by simp)
      | cons a r => exact ⟨a, r, rfl⟩
    have hf0 := hnm1 f0 List.mem_cons_self
    have hfe : f0 ≠ "" := fun z => by
      subst z
      exact absurd hf0 (by decide +kernel)
    refine sq ⟨_, rfl, rfl, _, rfl, ?_⟩
    rw [decide_eq_true rfl]
    refine iteT (sq (r_pop (i := 0) rfl dr1 fun H2 e2 dr2 => ?_))
    dsimp only
    have va2 := va1.eff e2 mIn
    have e12 := e1.call e2 (fun m hm => .inl hm)
    refine ⟨_, rfl, _, rfl, _, rfl, F, dw, na, ca, av, nm2, cz, vis, 16, rfl, dr2, va2, by omega, by decide, fun u F3 H3 e3 dr3 hu => ?_⟩
    have va3 := va2.eff e3 mIn1
    have e13 := e12.call e3.up (fun m hm => .inl hm)
    refine ⟨_, rfl, _, rfl, _, rfl, _, _, rfl, rfl, _, rfl, F3, dw, na, ca, av, nm2, cz, vis, dp + 1, f0, rfl, dr3, va3, by omega, d1, by omega, c1, (fun x hx => hnm1 x (List.mem_cons_of_mem _ hx)), .inr hf0, fun v b F4 H4 tk nm4 e4 dr4 c4 hb okb b12 hn hp hbeg => ⟨(by show 4 ≤ sizeLine; decide), fun t ht => ?_⟩⟩
    have e5 := (e13.call e4 (fun m hm => .inl hm)).put ht (o := .tup [.str "repeat", .str n0, u.v, v])
    have eC : Eff [] F4 H4 _ _ := (Eff.refl dr4.sub).put ht (o := .tup [.str "repeat", .str n0, u.v, v])
    have ez : chks (d + 1) (ItF.rep n0 u b : ItF (Itm d)) = chksL d b := by
      show ([b].map fun b => (b.map (chks d)).sum).sum + 0 = _
      rw [List.map_cons, List.map_nil, List.sum_cons, List.sum_nil]
      rfl
    refine q (.ref t) (ItF.rep n0 u b : ItF (Itm d)) _ _ (n0 :: f0 :: tk) nm4 e5 (by rw [ez]; exact dr4.pure eC) (by rw [ez]; exact c4) ⟨t, rfl, v, upd_same, isIts_mono eC.same hb⟩ ⟨hn0, d1, hu, hbeg hfe, b12, okb⟩ (by rw [hn]; rfl) ?_
    show (n0 :: nmsB d [b]).Perm _
    rw [nmsB, List.flatMap_singleton]
    rw [if_neg hfe] at hp
    exact hp.cons n0
  · refine sq ⟨_, rfl, rfl, _, rfl, ?_⟩
    rw [decide_eq_false fun z => k5 (V.int.inj z)]
    refine iteF ?_
    obtain ⟨w1, w2, w3, avs, hav1, havl1⟩ := va1
    have va1 : VisAt F H1 av dw na ca vis := ⟨w1, w2, w3, avs, hav1, havl1⟩
    have avlen := paired_len havl1
    have l13 : 13 ≤ nm1.length := by
      rw [List.length_cons] at h14
      omega
    refine sq (r_or6 rfl rfl (SqL.of hav1) (fun _ => ?_) (fun _ hl0 => ?_))
    · refine sq ⟨_, rfl, F, dw, na, ca, nm1, cz, 3, rfl, dr1, by decide, fun n H2 a2 b2 e2 dr2 => ⟨_, _, rfl, rfl, _, rfl, by omega, by omega, ?_⟩⟩
      have e12 := e1.call e2.up (fun m hm => .inl hm)
      have va2 := va1.eff e2 mIn1
      refine lc_draw (n := (1 + n).toNat) dr2 (by omega) (fun i F' ys nm' cz' => ∃ fs : List Str, ys = fs.map V.str ∧ nm1 = fs ++ nm' ∧ cz' = cz) (fun _ _ _ _ _ _ _ h => h) ⟨[], rfl, rfl, rfl⟩ (fun i F' H' ys nm' cz' hi hl e dr' ⟨fs, h5, h6, h7⟩ kk hk => ?_) (fun D ys F3 H3 nm3 cz3 nD e3 dr3 hD hl ⟨fs, h5, h6, h7⟩ => ?_)
      · cases nm' with
        | nil =>
          rw [List.append_nil] at h6
          rw [h5, List.length_map, ← h6] at hl
          omega
        | cons y r =>
          refine ⟨rfl, r_pop (i := 0) rfl dr' fun H'' e'' dr'' => hk _ F' H'' _ _ e'' dr'' ⟨fs ++ [y], ?_, ?_, h7⟩⟩
          · rw [h5, List.map_append]
            rfl
          · rw [h6, List.append_assoc]
            rfl
      subst h5 h7
      have fl : fs.length = (1 + n).toNat := by rw [← hl, List.length_map]
      dsimp only
      have e13 := e12.call e3 (fun m hm => .inl hm)
      have va3 := va2.eff e3 mIn
      have hnm3 : ∀ x ∈ nm3, isNameB x = true := fun x hx => hnm1 x (by rw [h6]; exact List.mem_append_right _ hx)
      have hfs : ∀ x ∈ fs, isNameB x = true := fun x hx => hnm1 x (by rw [h6]; exact List.mem_append_left _ hx)
      refine sq ⟨_, rfl, _, rfl, _, rfl, _, _, rfl, rfl, F3, dw, na, ca, av, nm3, _, vis, dp + 1, "", rfl, dr3, va3, by omega, d1, by omega, c1, hnm3, .inl rfl, fun v b F4 H4 tk4 nm4 e4 dr4 c4 hb okb b12 hn4 hp4 _ => ⟨(by show 1 ≤ sizeLine; decide), fun cl hcl => ?_⟩⟩
      dsimp only
      have e14 := e13.call e4 (fun m hm => .inl hm)
      have va4 := va3.eff e4 mIn
      obtain ⟨i1, i2, i3⟩ := dr4.new hcl
      have fcl := dr4.sub.free hcl
      have hcl0 : H cl = none := e14.none hcl
      have acl : av ≠ cl := by
        obtain ⟨_, _, _, vs4, hv4, _⟩ := va4
        exact ne_of_none hv4 hcl
      have hD4 : F4 D = _ := e4.same _ _ hD
      rw [if_pos rfl, List.nil_append] at hp4
      refine sq ⟨_, rfl, D, rfl, for_seq (z := false) (xs := fs.map V.str) (fun j σ H' => ∃ v5 v6 v7 v10 F' ys bs tk nm', σ = [some (.ref dw), some (.ref av), some (.int dp), some (.int kind), some (.str n0), v5, v6, v7, some (.ref D), some (.ref cl), v10] ∧ Eff [dw, na, ca] F H F' H' ∧ Same F4 F' ∧ F' cl = none ∧ H' cl = some (.lst ys) ∧ DrawAt F' H' dw na ca nm' (cz3 + chksB d bs) ∧ cz3 + chksB d bs ≤ 1 ∧ VisAt F' H' av dw na ca vis ∧
        Paired (fun v b => IsSeq false F' (IsIt false F' d) v b) ys bs ∧ (∀ b ∈ bs, b.length ≤ 12 ∧ OkL (OkI d) vis b) ∧ (∀ b ∈ bs.drop 1, BeginsD d b) ∧ bs.length = j + 1 ∧ nm3 = tk ++ nm' ∧ (nmsB d bs).Perm (fs.take j ++ tk)) ?_ ?_ ?_ ?_⟩
      · have cb1 : chksB d [b] = chksL d b := by
          rw [chksB, List.map_cons, List.map_nil, List.sum_cons, List.sum_nil]
          rfl
        refine ⟨_, _, _, _, F4, [v], [b], tk4, nm4, rfl, e14.loc hcl, fun _ _ h => h, fcl, upd_same, by rw [cb1]; exact dr4.other i1 i2 i3 fcl, by rw [cb1]; exact c4, ?_, .cons hb .nil, ?_, (fun b hb => by cases hb), rfl, hn4, ?_⟩
        · obtain ⟨u1, u2, u3, vs4, hv4, hvl4⟩ := va4
          exact ⟨u1, u2, u3, vs4, (upd_ne acl).trans hv4, hvl4⟩
        · intro b' hb'
          rw [List.mem_singleton.mp hb']
          exact ⟨b12, okb⟩
        · rw [List.take_zero, List.nil_append, nmsB, List.flatMap_singleton]
          exact hp4
      · rintro j σ H5 _ ⟨_, _, _, _, F5, _, _, _, _, _, e5, s5, _⟩
        exact e5.sub _ _ (s5 _ _ hD4)
      · rintro j y σ H5 hy5 ⟨v5, v6, v7, v10, F5, ys, bs, tk, nm5, rfl, e5, s5, fcl5, hcl5, dr5, c5, va5, hps, hbs, hbg, hbl, hn5, hp5⟩
        rw [List.getElem?_map] at hy5
        cases hfj : fs[j]? with
        | none => rw [hfj] at hy5; cases hy5
        | some f0 =>
          rw [hfj] at hy5
          cases hy5
          have hf0 := hfs f0 (List.mem_of_getElem? hfj)
          have hfe : f0 ≠ "" := fun z => by
            subst z
            exact absurd hf0 (by decide +kernel)
          obtain ⟨_, _, htk⟩ := cut_at hfj
          have jl := (List.getElem?_eq_some_iff.mp hfj).1
          refine ⟨_, rfl, .inl ⟨rfl, _, SqL.of hcl5⟩, _, rfl, _, rfl, _, rfl, _, _, rfl, rfl, _, rfl, F5, dw, na, ca, av, nm5, _, vis, dp + 1, f0, rfl, dr5, va5, by omega, d1, by omega, c5, (fun x hx => hnm3 x (by rw [hn5]; exact List.mem_append_right _ hx)), .inr hf0, fun v b' F6 H6 tk6 nm6 e6 dr6 c6 hb6 okb6 b126 hn6 hp6 hbeg6 => ?_⟩
          have hcl6 : H6 cl = _ := e6.keep _ _ hcl5 (by simp [i1, i2, i3])
          have fcl6 : F6 cl = none := e6.fresh _ fcl5 (by rw [hcl5]; intro z; cases z)
          have yl := paired_len hps
          refine ⟨cl, _, _, rfl, rfl, hcl6, Nat.lt_of_le_of_lt (show ys.length ≤ 1000 by omega) (by decide), ?_⟩
          rw [if_neg hfe] at hp6
          have cbs : cz3 + chksB d (bs ++ [b']) = cz3 + chksB d bs + chksL d b' := by
            have z1 : chksB d (bs ++ [b']) = chksB d bs + chksL d b' := by
              rw [chksB, List.map_append, List.sum_append, List.map_cons, List.map_nil, List.sum_cons, List.sum_nil]
              rfl
            rw [z1, Nat.add_assoc]
          have va6 := va5.eff e6 mIn
          refine ⟨_, _, _, _, F6, ys ++ [v], bs ++ [b'], tk ++ tk6, nm6, rfl, (e5.call e6 (fun m hm => .inl hm)).wr fcl6 (.inr hcl0), s5.trans e6.same, fcl6, upd_same, by rw [cbs]; exact dr6.other i1 i2 i3 fcl6, by rw [cbs]; exact c6, ?_, Paired.snoc (paired_mono (fun _ _ h => isIts_mono e6.same h) hps) hb6, ?_, ?_, by rw [List.length_append, hbl]; rfl, by rw [hn5, hn6, List.append_assoc], ?_⟩
          · obtain ⟨u1, u2, u3, vs4, hv4, hvl4⟩ := va6
            exact ⟨u1, u2, u3, vs4, (upd_ne acl).trans hv4, hvl4⟩
          · intro b2 hb2
            rcases List.mem_append.mp hb2 with hb2 | hb2
            · exact hbs b2 hb2
            · rw [List.mem_singleton.mp hb2]
              exact ⟨b126, okb6⟩
          · intro b2 hb2
            rw [List.drop_append_of_le_length (by omega)] at hb2
            rcases List.mem_append.mp hb2 with hb2 | hb2
            · exact hbg b2 hb2
            · rw [List.mem_singleton.mp hb2]
              exact hbeg6 hfe
          · rw [htk, nmsB, List.flatMap_append, List.flatMap_singleton]
            exact (hp5.append hp6).trans (perm4 _ _ _ _)
      · rintro σ H5 ⟨v5, v6, v7, v10, F5, ys, bs, tk, nm5, rfl, e5, s5, fcl5, hcl5, dr5, c5, va5, hps, hbs, hbg, hbl, hn5, hp5⟩
        rw [List.length_map] at hbl hp5
        rw [List.take_length] at hp5
        have yl := paired_len hps
        refine ⟨_, rfl, _, rfl, (by show 3 ≤ sizeLine; decide), fun t ht => ?_⟩
        have e6 := e5.frz hcl0 hcl5
        have sf := same_new fcl5 (.lst ys)
        have dr6 : DrawAt (upd F5 cl (.lst ys)) H5 dw na ca nm5 (cz3 + chksB d bs) := by
          obtain ⟨nu, pos, ns, h1, h2, h3, h4⟩ := dr5.obj
          exact ⟨e6.sub, ⟨nu, pos, ns, h1, h2, sf _ _ h3, h4⟩, dr5.nms, dr5.chk, (upd_ne i1.symm).trans dr5.fd, (upd_ne i2.symm).trans dr5.fn, (upd_ne i3.symm).trans dr5.fc, dr5.n1, dr5.n2, dr5.n3⟩
        have e7 := e6.put ht (o := .tup [.str "either", .str n0, .ref cl])
        have eC : Eff [] (upd F5 cl (.lst ys)) H5 _ _ := (Eff.refl e6.sub).put ht (o := .tup [.str "either", .str n0, .ref cl])
        have s57 := sf.trans eC.same
        have ez : chks (d + 1) (ItF.eit n0 bs : ItF (Itm d)) = chksB d bs := rfl
        refine q (.ref t) (ItF.eit n0 bs : ItF (Itm d)) _ _ (n0 :: (fs ++ tk)) nm5 e7 (by rw [ez]; exact dr6.pure eC) (by rw [ez]; exact c5) ⟨t, rfl, .ref cl, upd_same, cl, ys, rfl, eC.same _ _ upd_same, paired_mono (fun _ _ h => isIts_mono s57 h) hps, by omega⟩ ⟨hn0, d1, by omega, by omega, hbs, hbg⟩ (by rw [h6, hn5, List.cons_append, List.append_assoc]) ?_
        show (n0 :: nmsB d bs).Perm _
        exact hp5.cons n0
    · refine sq ⟨_, rfl, F, dw, na, ca, nm1, cz, 1000, rfl, dr1, by decide, fun first H2 a2 b2 e2 dr2 => ?_⟩
      have e12 := e1.call e2.up (fun m hm => .inl hm)
      have va2 := va1.eff e2 mIn1
      dsimp only
      refine sq ⟨_, rfl, F, dw, na, ca, nm1, cz, 4, rfl, dr2, by decide, fun st H3 a3 b3 e3 dr3 => ⟨_, _, rfl, rfl, .inl (by omega), _, _, rfl, rfl, ?_⟩⟩
      have e13 := e12.call e3.up (fun m hm => .inl hm)
      have va3 := va2.eff e3 mIn1
      dsimp only
      refine sq ⟨_, rfl, F, dw, na, ca, nm1, cz, 8, rfl, dr3, by decide, fun n H4 a4 b4 e4 dr4 => ⟨_, _, rfl, rfl, _, rfl, by omega, by omega, ?_⟩⟩
      have e14 := e13.call e4.up (fun m hm => .inl hm)
      have va4 := va3.eff e4 mIn1
      refine lc_draw (n := (1 + n).toNat) dr4 (by omega) (fun i F' ys nm' cz' => ∃ (cs : List (Int × List (Itm d))) (tk : List Str), Paired (fun v (c : Int × List (Itm d)) => ∃ e w', v = V.ref e ∧ F' e = some (.tup [.int c.1, w']) ∧ IsSeq false F' (IsIt false F' d) w' c.2) ys cs ∧ cs.map (·.1) = (List.range i).map (fun j : Nat => first + 8064 * ((0 + (j : Int)) * (1 + 2 * st) % 8)) ∧
        (∀ c ∈ cs, c.2.length ≤ 12 ∧ OkL (OkI d) vis c.2) ∧ nm1 = tk ++ nm' ∧ (cs.flatMap fun (c : Int × List (Itm d)) => nmsL d c.2).Perm tk ∧ cz' = cz + (cs.map fun (c : Int × List (Itm d)) => chksL d c.2).sum ∧ cz' ≤ 1) (fun i F1 F2 ys nm' cz' s ⟨cs, tk, h1, h2⟩ => ⟨cs, tk, paired_mono (fun _ _ ⟨e, w', h1, h2, h3⟩ => ⟨e, w', h1, s _ _ h2, isIts_mono s h3⟩) h1, h2⟩) ⟨[], [], .nil, rfl, (fun c hc => by cases hc), rfl, .nil, rfl, c1⟩
        (fun i F' H' ys nm' cz' hi hl e dr' ⟨cs, tk, r1, r2, r3, r4, r5, r6, r7⟩ kk hk => ?_) (fun D ys F5 H5 nm5 cz5 nD e5 dr5 hD hl ⟨cs, tk, r1, r2, r3, r4, r5, r6, r7⟩ => ?_)
      · have va' := va4.eff e mIn
        refine ⟨rfl, _, rfl, _, rfl, _, rfl, _, _, rfl, rfl, .inl (by omega), .inl ⟨_, rfl, _, _, rfl, rfl, (by show (0 : Int) < 8; decide), _, _, rfl, rfl, .inl (by omega), _, _, rfl, rfl, ?_⟩⟩
        refine ⟨_, rfl, _, rfl, _, rfl, _, _, rfl, rfl, F', dw, na, ca, av, nm', cz', vis, dp + 1, "", rfl, dr', va', by omega, d1, by omega, r7, (fun x hx => hnm1 x (by rw [r4]; exact List.mem_append_right _ hx)), .inl rfl, fun v b F6 H6 tk6 nm6 e6 dr6 c6 hb6 okb6 b126 hn6 hp6 _ => ⟨(by show 2 ≤ sizeLine; decide), fun t ht => ?_⟩⟩
        rw [if_pos rfl, List.nil_append] at hp6
        have eC : Eff [] F6 H6 _ _ := (Eff.refl dr6.sub).put ht (o := .tup [.int (first + 8064 * ((0 + (i : Int)) * (1 + 2 * st) % 8)), v])
        have s7 := e6.same.trans eC.same
        refine hk _ _ _ _ _ (e6.put ht) (dr6.pure eC) ⟨cs ++ [(first + 8064 * ((0 + (i : Int)) * (1 + 2 * st) % 8), b)], tk ++ tk6, Paired.snoc (paired_mono (fun _ _ ⟨e, w', h1, h2, h3⟩ => ⟨e, w', h1, s7 _ _ h2, isIts_mono s7 h3⟩) r1) ⟨t, v, rfl, upd_same, isIts_mono eC.same hb6⟩, ?_, ?_, by rw [r4, hn6, List.append_assoc], ?_, ?_, c6⟩
        · rw [List.map_append, r2, List.range_succ, List.map_append]
          rfl
        · intro c hc
          rcases List.mem_append.mp hc with hc | hc
          · exact r3 c hc
          · rw [List.mem_singleton.mp hc]
            exact ⟨b126, okb6⟩
        · rw [List.flatMap_append, List.flatMap_singleton]
          exact r5.append hp6
        · rw [r6, List.map_append, List.sum_append, List.map_cons, List.map_nil, List.sum_cons, List.sum_nil]
          exact Nat.add_assoc _ _ _
      dsimp only
      have e15 := e14.call e5 (fun m hm => .inl hm)
      have va5 := va4.eff e5 mIn
      have cl : cs.length = (1 + n).toNat := by rw [← paired_len r1, hl]
      obtain ⟨u1, u2, u3, vs5, hav5, hvl5⟩ := va5
      have vl5 := paired_len hvl5
      refine ⟨_, rfl, _, rfl, _, rfl, _, rfl, av, _, rfl, .inl (SqL.of hav5), F5, dw, na, ca, nm5, cz5, _, rfl, dr5, by omega, fun m H6 a6 b6 e6 dr6 => ?_⟩
      obtain ⟨tv, htv, htm⟩ := pick_of a6 b6
      obtain ⟨ti, hti⟩ := List.getElem?_of_mem htm
      obtain ⟨⟨tn, tlo, thi⟩, hq1, ta, tsz, to, rfl, hta, _, _⟩ := paired_at hvl5 hti
      have hav6 : H6 av = _ := e6.keep _ _ hav5 (by simpa using u1)
      refine ⟨av, _, _, _, rfl, rfl, SqL.of hav6, htv, ta, _, _, _, rfl, rfl, SqT.of (e6.sub _ _ hta), at1, _, rfl, (by show 4 ≤ sizeLine; decide), fun t ht => ?_⟩
      have e7 := (e15.call e6.up (fun m hm => .inl hm)).put ht (o := .tup [.str "switch", .str n0, .str tn, .ref D])
      have eC : Eff [] F5 H6 _ _ := (Eff.refl dr6.sub).put ht (o := .tup [.str "switch", .str n0, .str tn, .ref D])
      have ez : chks (d + 1) (ItF.swi n0 tn cs : ItF (Itm d)) = (cs.map fun c => chksL d c.2).sum := by
        show ((cs.map (·.2)).map fun b => (b.map (chks d)).sum).sum + 0 = _
        rw [List.map_map]
        rfl
      subst r6
      have vals : ∀ j : Nat, 0 ≤ first + 8064 * ((0 + (j : Int)) * (1 + 2 * st) % 8) ∧ first + 8064 * ((0 + (j : Int)) * (1 + 2 * st) % 8) ≤ 65535 := fun j => by
        have q1 := Int.emod_nonneg ((0 + (j : Int)) * (1 + 2 * st)) (show (8 : Int) ≠ 0 by decide)
        have q2 := Int.emod_lt_of_pos ((0 + (j : Int)) * (1 + 2 * st)) (show (0 : Int) < 8 by decide)
        omega
      refine q (.ref t) (ItF.swi n0 tn cs : ItF (Itm d)) _ _ (n0 :: tk) nm5 e7 (by rw [ez]; exact dr6.pure eC) (by rw [ez]; exact r7) ⟨t, rfl, .ref D, upd_same, D, ys, rfl, eC.same _ _ hD, paired_mono (fun _ _ ⟨e, w', h1, h2, h3⟩ => ⟨e, w', h1, eC.same _ _ h2, isIts_mono eC.same h3⟩) r1, by omega⟩ ⟨hn0, d1, ⟨tlo, thi, List.mem_of_getElem? hq1⟩, by omega, by omega, ?_, fun c hc => ⟨?_, r3 c hc⟩⟩ (by rw [r4]; rfl) ?_
      · rw [r2]
        refine nodup_inj List.nodup_range fun a ha b hb hab => ?_
        have ha := List.mem_range.mp ha
        have hb := List.mem_range.mp hb
        have hst : st = 0 ∨ st = 1 ∨ st = 2 ∨ st = 3 := by omega
        rcases hst with rfl | rfl | rfl | rfl <;> omega
      · have hm : c.1 ∈ cs.map (·.1) := List.mem_map.mpr ⟨c, hc, rfl⟩
        rw [r2] at hm
        obtain ⟨j, _, hj⟩ := List.mem_map.mp hm
        rw [← hj]
        exact vals j
      · show (n0 :: nmsB d (cs.map (·.2))).Perm _
        rw [nmsB, List.flatMap_map]
        exact r5.cons n0
end
end K6
set_option Elab.async false
set_option linter.all false
set_option maxRecDepth 100000
set_option maxHeartbeats 4000000
namespace K6
open PySem PySem.Spec PyProof.Rows L2
theorem r_iY {σ : L2.St} {H : Hp} {i : Nat} {k c : Int} {tA tB : TS} {D : Ends} (hσ : σ[i]? = some (some (.int k))) (e : k = c) (q : tA D σ H) : tIfS (tTest (tOp rEq (tVar i) (tC (.int c)))) tA tB D σ H := ⟨_, hσ, rfl, _, rfl, by rw [decide_eq_true (congrArg V.int e)]; exact iteT q⟩
theorem r_iN {σ : L2.St} {H : Hp} {i : Nat} {k c : Int} {tA tB : TS} {D : Ends} (hσ : σ[i]? = some (some (.int k))) (e : k ≠ c) (q : tB D σ H) : tIfS (tTest (tOp rEq (tVar i) (tC (.int c)))) tA tB D σ H := ⟨_, hσ, rfl, _, rfl, by rw [decide_eq_false (fun y => e (V.int.inj y))]; exact iteF q⟩
section
variable {P : Program} {w : World} {K : PySem.W.Frag} {mg : Str → Option Value} {base : Heap} {f : Addr} {fd : FuncData}
abbrev s__law_item : Stmt := top 53
abbrev N__law_item : List Str := ["_law_draw", "_law_ahead", "_law_depth", "_law_kind"]
theorem sc__law_item : FnScope N__law_item ["_law_draw", "_law_ahead", "_law_depth"] (defScope s__law_item) := ⟨rfl, rfl, rfl, by decide +kernel, rfl, by decide +kernel, by decide +kernel⟩
theorem b__law_item (kV doc pm : Value) (an : Option Addr) (cdv ct : Value) (us : List Value) (hl : us.length = (["_law_draw", "_law_ahead", "_law_depth"] : List Str).length) : bindArgs (PySem.W.fnOf "_law_item" "_law_item" (defArgs s__law_item) (defBody s__law_item) (defScope s__law_item) .none kV doc pm an cdv ct) ⟨us, []⟩ = pure ((["_law_draw", "_law_ahead", "_law_depth"] : List Str).zip us) := match us, hl with | [_, _, _], _ => rfl
theorem ok_law_item {d k : Nat} (F : Fun K "_law_item" "_law_item" s__law_item f fd) (T : Tx w K mg) (F__law_next : Fc P w K mg base 1 "_law_next" spNextN) (F__law_number : Fc P w K mg base 2 "_law_number" spNumber) (F__law_use : Fc P w K mg base 2 "_law_use" spUse) (F__law_nested : Fc P w K mg base k "_law_nested" (spNestedG d)) (hk2 : 2 ≤ k) : FnR P w K mg base CX0 (k + 1) f (spItemG d) := by
  refine raw_of F sc__law_item b__law_item (fun vs H Q E h => by obtain ⟨_, _, _, _, _, _, _, _, _, rfl, _⟩ := h; rfl) (fun cdv A outer s H vs Q E hr h => ?_)
  obtain ⟨F, dw, na, ca, av, nm, cz, vis, dp, rfl, dr, va, v13, dp4, c1, hnm, hne, q⟩ := h
  refine ⟨_, (pss_cons (ps_set (i := 3) sc__law_item.nd rfl (by first | exact Or.inl rfl | exact Or.inr rfl) (pe_cl F__law_next (hr.mono (by omega)) (pa_cons (pv 0) (pa_cons pe_int pa_nil))))
    (pss_cons (ps_if (PW.pt (pw_or (pt_cmpR op_lt (pv 3) pe_int (nomark _)) (pw_or1 (PW.pt (pw_and (pt_cmpR op_eq (pv 3) pe_int (nomark _)) (pw_and1 (pt_cmpR op_gt (pe_callB call_len_seq (by rfl) T.f_len PySem.boot_len (pa_cons (pe_ix ix_list (pv 0) pe_int (fun _ _ => rfl)) pa_nil)) pe_int (nomark _))))))))
      (pss_one (ps_ret (pe_cl F__law_number (hr.mono (by omega)) (pa_cons (pv 0) (pa_cons (pe_bm PySem.F.plainAttrs_list PySem.F.slot_list_pop PySem.F.type_list_pop mt_popAt (pe_ix ix_list (pv 0) pe_int (fun _ _ => rfl)) (pa_cons pe_int pa_nil)) pa_nil)))))
      pss_nil)
    (pss_cons (ps_if (pt_cmpR op_eq (pv 3) pe_int (nomark _))
      (pss_one (ps_ret (pe_tup (pa_cons pe_str (pa_cons (pe_bm PySem.F.plainAttrs_list PySem.F.slot_list_pop PySem.F.type_list_pop mt_popAt (pe_ix ix_list (pv 0) pe_int (fun _ _ => rfl)) (pa_cons pe_int pa_nil)) (pa_cons (pe_cl F__law_use (hr.mono (by omega)) (pa_cons (pv 0) (pa_cons (pv 1) (pa_cons pe_int pa_nil)))) pa_nil))))))
      pss_nil)
    (pss_cons (ps_if (pt_cmpR op_eq (pv 3) pe_int (nomark _))
      (pss_one (ps_ret (pe_tup (pa_cons pe_str (pa_cons (pe_bm PySem.F.plainAttrs_list PySem.F.slot_list_pop PySem.F.type_list_pop mt_popAt (pe_ix ix_list (pv 0) pe_int (fun _ _ => rfl)) (pa_cons pe_int pa_nil)) (pa_cons (pe_ix ix_list (pe_lst (pa_cons pe_int (pa_cons pe_int (pa_cons pe_int pa_nil)))) (pe_cl F__law_next (hr.mono (by omega)) (pa_cons (pv 0) (pa_cons pe_int pa_nil))) (fun _ _ => rfl)) (pa_cons (pe_ix ix_list (pe_lst (pa_cons pe_int (pa_cons pe_int (pa_cons (pe_cl F__law_next (hr.mono (by omega)) (pa_cons (pv 0) (pa_cons pe_int pa_nil))) pa_nil)))) (pe_cl F__law_next (hr.mono (by omega)) (pa_cons (pv 0) (pa_cons pe_int pa_nil))) (fun _ _ => rfl)) pa_nil)))))))
      pss_nil)
    (pss_cons (ps_if (pt_cmpR op_eq (pv 3) pe_int (nomark _))
      (pss_cons (ps_expr (pe_bm PySem.F.plainAttrs_list PySem.F.slot_list_append PySem.F.type_list_append mt_append (pe_ix ix_list (pv 0) pe_int (fun _ _ => rfl)) (pa_cons pe_int pa_nil)))
      (pss_one (ps_ret (pe_tup (pa_cons pe_str (pa_cons (pe_bm PySem.F.plainAttrs_list PySem.F.slot_list_pop PySem.F.type_list_pop mt_popAt (pe_ix ix_list (pv 0) pe_int (fun _ _ => rfl)) (pa_cons pe_int pa_nil)) (pa_cons (pe_ix ix_list (pe_lst (pa_cons pe_int (pa_cons pe_int (pa_cons (pe_op op_add pe_int (pe_cl F__law_next (hr.mono (by omega)) (pa_cons (pv 0) (pa_cons pe_int pa_nil)))) pa_nil)))) (pe_cl F__law_next (hr.mono (by omega)) (pa_cons (pv 0) (pa_cons pe_int pa_nil))) (fun _ _ => rfl)) pa_nil)))))))
      pss_nil)
    (pss_cons (ps_if (pt_cmpR op_eq (pv 3) pe_int (nomark _))
      (pss_one (ps_ret (pe_tup (pa_cons pe_str (pa_cons (pe_bm PySem.F.plainAttrs_list PySem.F.slot_list_pop PySem.F.type_list_pop mt_popAt (pe_ix ix_list (pv 0) pe_int (fun _ _ => rfl)) (pa_cons pe_int pa_nil)) (pa_cons (pe_ix ix_list (pe_lst (pa_cons pe_int (pa_cons pe_int (pa_cons pe_int (pa_cons pe_int (pa_cons pe_int pa_nil)))))) (pe_cl F__law_next (hr.mono (by omega)) (pa_cons (pv 0) (pa_cons pe_int pa_nil))) (fun _ _ => rfl)) (pa_cons (pe_ix ix_list (pe_lst (pa_cons pe_int (pa_cons pe_int (pa_cons (pe_cl F__law_next (hr.mono (by omega)) (pa_cons (pv 0) (pa_cons pe_int pa_nil))) pa_nil)))) (pe_cl F__law_next (hr.mono (by omega)) (pa_cons (pv 0) (pa_cons pe_int pa_nil))) (fun _ _ => rfl)) pa_nil)))))))
      pss_nil)
    (pss_cons (ps_if (PW.pt (pw_or (pt_cmpR op_eq (pv 2) pe_int (nomark _)) (pw_or1 (pt_cmpR op_lt (pe_callB call_len_seq (by rfl) T.f_len PySem.boot_len (pa_cons (pe_ix ix_list (pv 0) pe_int (fun _ _ => rfl)) pa_nil)) pe_int (nomark _)))))
      (pss_one (ps_ret (pe_cl F__law_number (hr.mono (by omega)) (pa_cons (pv 0) (pa_cons (pe_bm PySem.F.plainAttrs_list PySem.F.slot_list_pop PySem.F.type_list_pop mt_popAt (pe_ix ix_list (pv 0) pe_int (fun _ _ => rfl)) (pa_cons pe_int pa_nil)) pa_nil)))))
      pss_nil)
    (pss_one (ps_ret (pe_cl F__law_nested (hr.mono (by omega)) (pa_cons (pv 0) (pa_cons (pv 1) (pa_cons (pv 2) (pa_cons (pv 3) pa_nil)))))))))))))), ?_⟩
  obtain ⟨n0, nm1, rfl⟩ : ∃ n0 nm1, nm = n0 :: nm1 := by
    cases nm with
    | nil => exact absurd rfl hne
    | cons a r => exact ⟨a, r, rfl⟩
  have hn0 := hnm n0 List.mem_cons_self
  refine sq ⟨_, rfl, F, dw, na, ca, _, cz, 10, rfl, dr, by decide, fun kind H1 a1 b1 e1 dr1 => ?_⟩
  dsimp only
  have va1 := va.eff e1 mIn1
  have mk : ∀ {p : Plain} {t : Addr} {F' H' : Hp}, p.name = n0 → Eff [dw, na, ca] F H F' H' → DrawAt F' H' dw na ca nm1 (cz + p.chk) → cz + p.chk ≤ 1 → F' t = some (.tup p.vs) → OkP vis p → Q (.ref t) H' := by
    intro p t F' H' hp e dr' hc ht ok
    refine q (.ref t) (ItF.pl p : ItF (Itm d)) F' H' [n0] nm1 e ?_ ?_ ⟨t, rfl, ht⟩ ⟨by show isNameB p.name = true; rw [hp]; exact hn0, ok⟩ rfl ?_
    · show DrawAt F' H' dw na ca nm1 (cz + (0 + p.chk))
      rw [Nat.zero_add]
      exact dr'
    · show cz + (0 + p.chk) ≤ 1
      rw [Nat.zero_add]
      exact hc
    · show ([p.name] : List Str).Perm [n0]
      rw [hp]
  have num : ∀ (nx bk ct : L2.St → Hp → Prop) (σ : L2.St), σ[0]? = some (some (.ref dw)) → tRet (tCl spNumber (tCons (tVar 0) (tCons (tBM K "list" rPopAt (tOp (rIxL K) (tVar 0) (tC (.int 2))) (tCons (tC (.int 0)) tNil)) tNil))) { nx := nx, rt := Q, bk := bk, ct := ct } σ H1 := by
    intro nx bk ct σ hσ
    refine ⟨_, hσ, r_pop hσ dr1 fun H2 e2 dr2 => ?_⟩
    refine ⟨F, dw, na, ca, nm1, cz, n0, rfl, dr2, fun a F3 H3 sz o lo hi e3 dr3 ha okp => ?_⟩
    exact mk (p := .number n0 sz o lo hi) rfl ((e1.up.call e2 (fun m hm => .inl hm)).call e3.up (fun m hm => .inl hm)) dr3 c1 ha (okp vis)
  obtain ⟨nu, pos, ns, ho, _⟩ := dr1.obj
  obtain ⟨cvs, hcv, hcl⟩ := dr1.chk
  have lenC : ∀ {Rr : Bool → Prop}, Rr (decide (0 < cz)) → True := fun _ => trivial
  by_cases k3 : kind < 3
  · refine sq ⟨_, rfl, _, _, rfl, rfl, _, rfl, ?_⟩
    rw [decide_eq_true k3]
    exact iteT (iteT (num _ _ _ _ rfl))
  · by_cases k8 : kind = 8
    · subst k8
      by_cases hz : 0 < cz
      · refine sq ⟨_, rfl, _, _, rfl, rfl, _, rfl, ?_⟩
        rw [decide_eq_false k3]
        refine iteF ⟨_, rfl, rfl, _, rfl, ?_⟩
        rw [decide_eq_true rfl]
        refine iteT ⟨_, rfl, dw, _, _, _, rfl, rfl, SqL.of ho, at3, ca, _, rfl, .inl (SqL.of hcv), _, _, rfl, rfl, _, rfl, ?_⟩
        rw [decide_eq_true (show (0 : Int) < (cvs.length : Nat) by omega)]
        exact iteT (num _ _ _ _ rfl)
      · refine sq ⟨_, rfl, _, _, rfl, rfl, _, rfl, ?_⟩
        rw [decide_eq_false k3]
        refine iteF ⟨_, rfl, rfl, _, rfl, ?_⟩
        rw [decide_eq_true rfl]
        refine iteT ⟨_, rfl, dw, _, _, _, rfl, rfl, SqL.of ho, at3, ca, _, rfl, .inl (SqL.of hcv), _, _, rfl, rfl, _, rfl, ?_⟩
        rw [decide_eq_false (show ¬ (0 : Int) < (cvs.length : Nat) by omega)]
        refine iteF ?_
        have hz0 : cz = 0 := by omega
        subst hz0
        dsimp only
        refine sq (r_iN rfl (by decide) (sq (r_iN rfl (by decide) (sq (r_iY rfl rfl ?_)))))
        refine sq ⟨_, rfl, dw, _, _, _, rfl, rfl, SqL.of ho, at3, .inl ⟨rfl, _, SqL.of hcv⟩, ca, _, _, rfl, rfl, hcv, by rw [hcl]; decide, ?_⟩
        dsimp only
        have dr2 := dr1.check (v := .int 1) hcl
        have e2 : Eff [dw, na, ca] F H F (upd H1 ca (.lst (cvs ++ [.int 1]))) := e1.up.wr dr1.fc (.inl (by simp))
        refine r_pop (i := 0) rfl dr2 fun H3 e3 dr3 => ?_
        refine ⟨_, rfl, F, dw, na, ca, nm1, _, 16, rfl, dr3, by decide, fun n H4 a4 b4 e4 dr4 => ⟨_, _, rfl, rfl, (by show 3 ≤ sizeLine; decide), fun p hp => ?_⟩⟩
        have e14 := (e2.call e3 (fun m hm => .inl hm)).call e4.up (fun m hm => .inl hm)
        have eP := (Eff.refl dr4.sub (M := [])).put hp (o := .lst [.int 1, .int 16, .int (1 + n)])
        have dr5 := dr4.pure eP
        refine ⟨_, rfl, _, dw, na, ca, nm1, _, 3, rfl, dr5, by decide, fun m H6 a6 b6 e6 dr6 => ?_⟩
        obtain ⟨mv, hmv, hmm⟩ := pick_of (xs := [V.int 1, V.int 16, V.int (1 + n)]) a6 b6
        have hu : ∃ z, mv = V.int z ∧ 1 ≤ z ∧ z ≤ 16 := by
          simp only [List.mem_cons, List.not_mem_nil, or_false] at hmm
          rcases hmm with rfl | rfl | rfl
          · exact ⟨_, rfl, by omega, by omega⟩
          · exact ⟨_, rfl, by omega, by omega⟩
          · exact ⟨_, rfl, by omega, by omega⟩
        obtain ⟨z, rfl, z1, z2⟩ := hu
        refine ⟨p, _, _, _, rfl, rfl, e6.keepL upd_same, hmv, (by show 3 ≤ sizeLine; decide), fun t ht => ?_⟩
        exact mk (p := .check n0 z) rfl (((e14.call eP (fun m hm => by cases hm)).call e6.up (fun m hm => .inl hm)).put ht) (dr6.pure ((Eff.refl dr6.sub).put ht)) (Nat.le_refl _) upd_same ⟨z1, z2⟩
    · refine sq ⟨_, rfl, _, _, rfl, rfl, _, rfl, ?_⟩
      rw [decide_eq_false k3]
      refine iteF ⟨_, rfl, rfl, _, rfl, ?_⟩
      rw [decide_eq_false fun z => k8 (V.int.inj z)]
      refine iteF ?_
      dsimp only
      by_cases k33 : kind = 3
      · refine sq (r_iY rfl k33 ?_)
        refine r_pop (i := 0) rfl dr1 fun H2 e2 dr2 => ?_
        have va2 := va1.eff e2 mIn
        refine ⟨_, rfl, _, rfl, F, dw, na, ca, av, nm1, cz, vis, 64, rfl, dr2, va2, by omega, by decide, fun u F3 H3 e3 dr3 hu => ⟨(by show 3 ≤ sizeLine; decide), fun t ht => ?_⟩⟩
        exact mk (p := .bytes n0 u) rfl (((e1.up.call e2 (fun m hm => .inl hm)).call e3.up (fun m hm => .inl hm)).put ht) (dr3.pure ((Eff.refl dr3.sub).put ht)) c1 upd_same hu
      by_cases k4 : kind = 4
      · refine sq (r_iN rfl k33 ?_)
        refine sq (r_iY rfl k4 ?_)
        refine r_pop (i := 0) rfl dr1 fun H2 e2 dr2 => ⟨(by show 3 ≤ sizeLine; decide), fun p hp => ?_⟩
        have e12 := e1.up.call e2 (fun m hm => .inl hm)
        have eP := (Eff.refl dr2.sub (M := [])).put hp (o := .lst [.int 0, .int 255, .int 10])
        have dr3 := dr2.pure eP
        refine ⟨_, rfl, _, dw, na, ca, nm1, cz, 3, rfl, dr3, by decide, fun m H4 a4 b4 e4 dr4 => ?_⟩
        obtain ⟨sv, hsv, hsm⟩ := pick_of (xs := [V.int 0, V.int 255, V.int 10]) a4 b4
        have hu : ∃ z, sv = V.int z ∧ 0 ≤ z ∧ z ≤ 255 := by
          simp only [List.mem_cons, List.not_mem_nil, or_false] at hsm
          rcases hsm with rfl | rfl | rfl
          · exact ⟨_, rfl, by omega, by omega⟩
          · exact ⟨_, rfl, by omega, by omega⟩
          · exact ⟨_, rfl, by omega, by omega⟩
        obtain ⟨z, rfl, z1, z2⟩ := hu
        have e14 := (e12.call eP (fun m hm => by cases hm)).call e4.up (fun m hm => .inl hm)
        refine ⟨p, _, _, _, rfl, rfl, e4.keepL upd_same, hsv, _, rfl, _, dw, na, ca, nm1, cz, 9, rfl, dr4, by decide, fun n H5 a5 b5 e5 dr5 => ⟨(by show 3 ≤ sizeLine; decide), fun p2 hp2 => ?_⟩⟩
        have eP2 := (Eff.refl dr5.sub (M := [])).put hp2 (o := .lst [.int 0, .int 64, .int n])
        have dr6 := dr5.pure eP2
        refine ⟨_, rfl, _, dw, na, ca, nm1, cz, 3, rfl, dr6, by decide, fun m2 H7 a7 b7 e7 dr7 => ?_⟩
        obtain ⟨tv, htv, htm⟩ := pick_of (xs := [V.int 0, V.int 64, V.int n]) a7 b7
        have hu2 : ∃ z, tv = V.int z ∧ 0 ≤ z ∧ z ≤ 64 := by
          simp only [List.mem_cons, List.not_mem_nil, or_false] at htm
          rcases htm with rfl | rfl | rfl
          · exact ⟨_, rfl, by omega, by omega⟩
          · exact ⟨_, rfl, by omega, by omega⟩
          · exact ⟨_, rfl, by omega, by omega⟩
        obtain ⟨z', rfl, z3, z4⟩ := hu2
        refine ⟨p2, _, _, _, rfl, rfl, e7.keepL upd_same, htv, (by show 4 ≤ sizeLine; decide), fun t ht => ?_⟩
        exact mk (p := .text n0 z z') rfl ((((e14.call e5.up (fun m hm => .inl hm)).call eP2 (fun m hm => by cases hm)).call e7.up (fun m hm => .inl hm)).put ht) (dr7.pure ((Eff.refl dr7.sub).put ht)) c1 upd_same ⟨⟨z1, z2⟩, z3, z4⟩
      by_cases k9 : kind = 9
      · refine sq (r_iN rfl k33 ?_)
        refine sq (r_iN rfl k4 ?_)
        refine sq (r_iN rfl k8 ?_)
        refine sq (r_iY rfl k9 ?_)
        refine r_pop (i := 0) rfl dr1 fun H2 e2 dr2 => ⟨(by show 5 ≤ sizeLine; decide), fun p hp => ?_⟩
        have e12 := e1.up.call e2 (fun m hm => .inl hm)
        have eP := (Eff.refl dr2.sub (M := [])).put hp (o := .lst [.int 1, .int 2, .int 4, .int 8, .int 16])
        have dr3 := dr2.pure eP
        refine ⟨_, rfl, _, dw, na, ca, nm1, cz, 5, rfl, dr3, by decide, fun m H4 a4 b4 e4 dr4 => ?_⟩
        obtain ⟨sv, hsv, hsm⟩ := pick_of (xs := [V.int 1, V.int 2, V.int 4, V.int 8, V.int 16]) a4 b4
        have hu : ∃ z, sv = V.int z ∧ (z = 1 ∨ z = 2 ∨ z = 4 ∨ z = 8 ∨ z = 16) := by
          simp only [List.mem_cons, List.not_mem_nil, or_false] at hsm
          rcases hsm with rfl | rfl | rfl | rfl | rfl
          · exact ⟨_, rfl, by omega⟩
          · exact ⟨_, rfl, by omega⟩
          · exact ⟨_, rfl, by omega⟩
          · exact ⟨_, rfl, by omega⟩
          · exact ⟨_, rfl, by omega⟩
        obtain ⟨z, rfl, z1⟩ := hu
        have e14 := (e12.call eP (fun m hm => by cases hm)).call e4.up (fun m hm => .inl hm)
        refine ⟨p, _, _, _, rfl, rfl, e4.keepL upd_same, hsv, _, rfl, _, dw, na, ca, nm1, cz, 256, rfl, dr4, by decide, fun n H5 a5 b5 e5 dr5 => ⟨(by show 3 ≤ sizeLine; decide), fun p2 hp2 => ?_⟩⟩
        have eP2 := (Eff.refl dr5.sub (M := [])).put hp2 (o := .lst [.int 0, .int 255, .int n])
        have dr6 := dr5.pure eP2
        refine ⟨_, rfl, _, dw, na, ca, nm1, cz, 3, rfl, dr6, by decide, fun m2 H7 a7 b7 e7 dr7 => ?_⟩
        obtain ⟨tv, htv, htm⟩ := pick_of (xs := [V.int 0, V.int 255, V.int n]) a7 b7
        have hu2 : ∃ z, tv = V.int z ∧ 0 ≤ z ∧ z ≤ 255 := by
          simp only [List.mem_cons, List.not_mem_nil, or_false] at htm
          rcases htm with rfl | rfl | rfl
          · exact ⟨_, rfl, by omega, by omega⟩
          · exact ⟨_, rfl, by omega, by omega⟩
          · exact ⟨_, rfl, by omega, by omega⟩
        obtain ⟨z', rfl, z3, z4⟩ := hu2
        refine ⟨p2, _, _, _, rfl, rfl, e7.keepL upd_same, htv, (by show 4 ≤ sizeLine; decide), fun t ht => ?_⟩
        exact mk (p := .pad n0 z z') rfl ((((e14.call e5.up (fun m hm => .inl hm)).call eP2 (fun m hm => by cases hm)).call e7.up (fun m hm => .inl hm)).put ht) (dr7.pure ((Eff.refl dr7.sub).put ht)) c1 upd_same ⟨z1, z3, z4⟩
      · refine sq (r_iN rfl k33 ?_)
        refine sq (r_iN rfl k4 ?_)
        refine sq (r_iN rfl k8 ?_)
        refine sq (r_iN rfl k9 ?_)
        by_cases d3 : dp = 3
        · refine sq ⟨_, rfl, rfl, _, rfl, ?_⟩
          rw [decide_eq_true (congrArg V.int d3)]
          exact iteT (iteT (num _ _ _ _ rfl))
        · refine sq ⟨_, rfl, rfl, _, rfl, ?_⟩
          rw [decide_eq_false fun z => d3 (V.int.inj z)]
          refine iteF ⟨_, rfl, dw, _, _, _, rfl, rfl, SqL.of ho, at2, na, _, rfl, .inl (SqL.of dr1.nms), _, _, rfl, rfl, _, rfl, ?_⟩
          by_cases l14 : ((((n0 :: nm1).map V.str).length : Nat) : Int) < 14
          · rw [decide_eq_true l14]
            exact iteT (num _ _ _ _ rfl)
          · rw [decide_eq_false l14]
            refine iteF ?_
            rw [List.length_map] at l14
            refine ⟨_, rfl, _, rfl, _, rfl, _, rfl, F, dw, na, ca, av, n0 :: nm1, cz, vis, dp, kind, rfl, dr1, va1, v13, by omega, by omega, c1, hnm, by omega, fun v x F2 H2 tk nm2 e2 dr2 c2 hx ok hn hp => ?_⟩
            exact q v x F2 H2 tk nm2 (e1.up.call e2 (fun m hm => .inl hm)) dr2 c2 hx ok hn hp
theorem gen_all {f1 f2 f3 f4 : Addr} {g1 g2 g3 g4 : FuncData} (F1 : Fun K "_law_items" "_law_items" s__law_items f1 g1) (h1 : mg "_law_items" = some (.ref f1)) (F2 : Fun K "_law_item" "_law_item" s__law_item f2 g2) (h2 : mg "_law_item" = some (.ref f2)) (F3 : Fun K "_law_nested" "_law_nested" s__law_nested f3 g3) (h3 : mg "_law_nested" = some (.ref f3)) (F4 : Fun K "_law_block" "_law_block" s__law_block f4 g4) (h4 : mg "_law_block" = some (.ref f4))
    (T : Tx w K mg) (F__law_next : Fc P w K mg base 1 "_law_next" spNextN) (F__law_number : Fc P w K mg base 2 "_law_number" spNumber) (F__law_use : Fc P w K mg base 2 "_law_use" spUse) : ∀ d, Fc P w K mg base (4 * d + 2) "_law_items" (spItemsG d) ∧ Fc P w K mg base (4 * d + 3) "_law_block" (spBlockG d)
  | 0 => ⟨fc_of h1 F1.kp (fnR_no fun vs H Q E h => by
      obtain ⟨_, _, _, _, _, _, _, _, _, _, _, _, _, _, h1, _⟩ := h
      omega), fc_of h4 F4.kp (fnR_no fun vs H Q E h => by
      obtain ⟨_, _, _, _, _, _, _, _, _, _, _, _, _, _, h1, _⟩ := h
      omega)⟩
  | d + 1 => by
    obtain ⟨_, b⟩ := gen_all F1 h1 F2 h2 F3 h3 F4 h4 T F__law_next F__law_number F__law_use d
    have n : Fc P w K mg base (4 * d + 4) "_law_nested" (spNestedG d) := fc_of h3 F3.kp (ok_law_nested (k := 4 * d + 3) F3 T F__law_next F__law_use b (by omega))
    have i : Fc P w K mg base (4 * d + 5) "_law_item" (spItemG d) := fc_of h2 F2.kp (ok_law_item (k := 4 * d + 4) F2 T F__law_next F__law_number F__law_use n (by omega))
    have a : Fc P w K mg base (4 * (d + 1) + 2) "_law_items" (spItemsG (d + 1)) := fc_of h1 F1.kp (ok_law_items (k := 4 * d + 5) F1 T i)
    exact ⟨a, fc_of h4 F4.kp (ok_law_block (k := 4 * (d + 1) + 2) F4 T F__law_next F__law_number a (by omega))⟩
end
end K6
set_option Elab.async false
set_option linter.all false
set_option maxRecDepth 100000
set_option maxHeartbeats 4000000
namespace K6
open PySem PySem.Spec PyProof.Rows L2
section
variable {P : Program} {w : World} {K : PySem.W.Frag} {mg : Str → Option Value} {base : Heap} {f : Addr} {fd : FuncData}
def spRow : Sp := fun vs H Q _ => ∃ (F : Hp) (cell : Int) (many : Nat), vs = [.int cell, .int many] ∧ Same F H ∧ many ≤ 200 ∧ ∀ (r : Addr) (ns : List Int) (F' H' : Hp), Eff [] F H F' H' → F' r = some (.lst (ns.map V.int)) → ns.length = many → (∀ n ∈ ns, 0 ≤ n) → Q (.ref r) H'
abbrev s__law_row : Stmt := top 45
abbrev N__law_row : List Str := ["_law_cell", "_law_many", "_law_row_here", "_law_rest", "_law_mixed", "_law_k"]
theorem sc__law_row : FnScope N__law_row ["_law_cell", "_law_many"] (defScope s__law_row) := ⟨rfl, rfl, rfl, by decide +kernel, rfl, by decide +kernel, by decide +kernel⟩
theorem b__law_row (kV doc pm : Value) (an : Option Addr) (cdv ct : Value) (us : List Value) (hl : us.length = (["_law_cell", "_law_many"] : List Str).length) : bindArgs (PySem.W.fnOf "_law_row" "_law_row" (defArgs s__law_row) (defBody s__law_row) (defScope s__law_row) .none kV doc pm an cdv ct) ⟨us, []⟩ = pure ((["_law_cell", "_law_many"] : List Str).zip us) := match us, hl with | [_, _], _ => rfl
theorem ok_law_row (F : Fun K "_law_row" "_law_row" s__law_row f fd) (T : Tx w K mg) : FnR P w K mg base CX0 1 f spRow := by
  refine raw_of F sc__law_row b__law_row (fun vs H Q E h => by obtain ⟨_, _, _, rfl, _⟩ := h; rfl) (fun cdv A outer s H vs Q E hr h => ?_)
  obtain ⟨F, cell, many, rfl, sFH, m2, q⟩ := h
  refine ⟨_, (pss_cons (ps_set (i := 2) sc__law_row.nd rfl (by first | exact Or.inl rfl | exact Or.inr rfl) (pe_lst pa_nil))
    (pss_cons (ps_set (i := 3) sc__law_row.nd rfl (by first | exact Or.inl rfl | exact Or.inr rfl) (pe_callB call_abs (by rfl) T.f_abs (by decide +kernel) (pa_cons (pv 0) pa_nil)))
    (pss_cons (ps_set (i := 4) sc__law_row.nd rfl (by first | exact Or.inl rfl | exact Or.inr rfl) (pe_op op_mod (pe_callTy call_int1 (by rfl) T.f_int (by decide +kernel) (pa_cons (pe_op op_add (pe_op op_mul (pv 3) pe_int) pe_int) pa_nil)) pe_int))
    (pss_cons (ps_for PassesOwn.never rfl (pi_range1 (by rfl) T.f_range (pa_cons (pv 1) pa_nil)) (pg_name (i := 5) sc__law_row.nd rfl (by first | exact Or.inl rfl | exact Or.inr rfl))
      (pss_cons (ps_set (i := 4) sc__law_row.nd rfl (by first | exact Or.inl rfl | exact Or.inr rfl) (pe_op op_mod (pe_callTy call_int1 (by rfl) T.f_int (by decide +kernel) (pa_cons (pe_op op_add (pe_op op_mul (pv 4) pe_int) (pe_op op_mul pe_int (pe_op op_add (pv 5) pe_int))) pa_nil)) pe_int))
      (pss_one (ps_if (pt_cmpR op_ge (pe_callB call_abs (by rfl) T.f_abs (by decide +kernel) (pa_cons (pv 0) pa_nil)) (pe_op op_pow pe_int pe_int) (nomark _))
        (pss_cons (ps_expr (pe_bm PySem.F.plainAttrs_list PySem.F.slot_list_append PySem.F.type_list_append mt_append (pv 2) (pa_cons (pe_op op_mod (pe_callTy call_int1 (by rfl) T.f_int (by decide +kernel) (pa_cons (pv 3) pa_nil)) pe_int) pa_nil)))
        (pss_one (ps_set (i := 3) sc__law_row.nd rfl (by first | exact Or.inl rfl | exact Or.inr rfl) (pe_op op_fdiv (pv 3) pe_int))))
        (pss_one (ps_expr (pe_bm PySem.F.plainAttrs_list PySem.F.slot_list_append PySem.F.type_list_append mt_append (pv 2) (pa_cons (pe_op op_mod (pe_callTy call_int1 (by rfl) T.f_int (by decide +kernel) (pa_cons (pe_op op_fdiv (pv 4) pe_int) pa_nil)) pe_int) pa_nil))))))))
    (pss_one (ps_ret (pv 2))))))), ?_⟩
  refine sq ⟨Nat.zero_le _, fun rl hrl => ?_⟩
  have frl := sFH.free hrl
  dsimp only
  refine sq ⟨_, rfl, _, rfl, ?_⟩
  generalize hrest : (if cell < 0 then -cell else cell) = rest
  refine sq ⟨_, rfl, _, _, rfl, rfl, .inr (by omega), _, _, rfl, rfl, .inl ⟨_, rfl, _, _, rfl, rfl, (by show (0 : Int) < 2147483647; decide), ?_⟩⟩
  refine sq ⟨_, rfl, many, rfl, by omega, by omega, for_range (n := many) (fun i σ H' => ∃ (r' m' : Int) (v5 : Option V) (ns : List Int), σ = [some (.int cell), some (.int many), some (.ref rl), some (.int r'), some (.int m'), v5] ∧ H' = upd H rl (.lst (ns.map V.int)) ∧ ns.length = i ∧ ∀ n ∈ ns, (0 : Int) ≤ n) ?_ ?_ ?_⟩
  · exact ⟨_, _, _, [], rfl, rfl, rfl, fun n h => by cases h⟩
  · rintro i σ H1 hi ⟨r', m', v5, ns, rfl, rfl, hl, hn⟩
    have hS : (upd H rl (.lst (ns.map V.int))) rl = some (.lst (ns.map V.int)) := upd_same
    have sz : (ns.map V.int).length < sizeLine := Nat.lt_of_le_of_lt (show (ns.map V.int).length ≤ 1000 by rw [List.length_map]; omega) (by decide)
    have fin : ∀ (z : Int), (upd (upd H rl (.lst (ns.map V.int))) rl (.lst (ns.map V.int ++ [.int (z % 1009)]))) = upd H rl (.lst ((ns ++ [z % 1009]).map V.int)) := fun z => by
      rw [upd_upd, List.map_append]
      rfl
    have ok1 : ∀ (z : Int), ∀ n ∈ ns ++ [z % 1009], 0 ≤ n := fun z n h => by
      rcases List.mem_append.mp h with h | h
      · exact hn n h
      · rw [List.mem_singleton.mp h]
        exact Int.emod_nonneg _ (by decide)
    have len1 : ∀ (z : Int), (ns ++ [z % 1009]).length = i + 1 := fun z => by rw [List.length_append, List.length_singleton, hl]
    refine sq ⟨_, rfl, _, _, rfl, rfl, .inr (by omega), _, rfl, _, _, rfl, rfl, _, _, rfl, rfl, .inl (by omega), _, _, rfl, rfl, .inl ⟨_, rfl, _, _, rfl, rfl, (by show (0 : Int) < 2147483629; decide), ?_⟩⟩
    dsimp only
    refine ⟨_, rfl, _, rfl, _, _, rfl, rfl, ⟨by decide, by decide, by decide⟩, _, _, rfl, rfl, _, rfl, ite2 (fun c => ?_) (fun c => ?_)⟩
    · refine sq ⟨_, rfl, .inl ⟨rfl, _, SqL.of hS⟩, _, rfl, .inl ⟨_, rfl, _, _, rfl, rfl, (by show (0 : Int) < 1009; decide), rl, _, _, rfl, rfl, hS, sz, ?_⟩⟩
      refine ⟨_, rfl, _, _, rfl, rfl, ⟨by decide, by decide⟩, ?_⟩
      exact ⟨_, _, _, _, rfl, fin _, len1 _, ok1 _⟩
    · refine ⟨_, rfl, .inl ⟨rfl, _, SqL.of hS⟩, _, rfl, _, _, rfl, rfl, ⟨by decide, by decide⟩, .inl ⟨_, rfl, _, _, rfl, rfl, (by show (0 : Int) < 1009; decide), rl, _, _, rfl, rfl, hS, sz, ?_⟩⟩
      exact ⟨_, _, _, _, rfl, fin _, len1 _, ok1 _⟩
  · rintro σ H1 ⟨r', m', v5, ns, rfl, rfl, hl, hn⟩
    exact ⟨_, rfl, q rl ns _ _ ((Eff.refl sFH).put hrl) upd_same hl hn⟩
def spNums (K : PySem.W.Frag) : Sp := fun vs H Q _ => ∃ (F : Hp) (sa : Addr) (cells : List Int), vs = [.ref sa, .int 160] ∧ Same F H ∧ SqL K H sa (cells.map V.int) ∧ cells.length ≤ 63 ∧ ∀ (r : Addr) (ns : List Int) (F' H' : Hp), Eff [] F H F' H' → F' r = some (.lst (ns.map V.int)) → ns.length = 160 → (∀ n ∈ ns, 0 ≤ n) → Q (.ref r) H'
abbrev s__law_numbers : Stmt := top 46
abbrev N__law_numbers : List Str := ["_law_script", "_law_many", "_law_cells", "_law_each", "_law_numbers_here", "_law_cell", "_law_number_here"]
theorem sc__law_numbers : FnScope N__law_numbers ["_law_script", "_law_many"] (defScope s__law_numbers) := ⟨rfl, rfl, rfl, by decide +kernel, rfl, by decide +kernel, by decide +kernel⟩
theorem b__law_numbers (kV doc pm : Value) (an : Option Addr) (cdv ct : Value) (us : List Value) (hl : us.length = (["_law_script", "_law_many"] : List Str).length) : bindArgs (PySem.W.fnOf "_law_numbers" "_law_numbers" (defArgs s__law_numbers) (defBody s__law_numbers) (defScope s__law_numbers) .none kV doc pm an cdv ct) ⟨us, []⟩ = pure ((["_law_script", "_law_many"] : List Str).zip us) := match us, hl with | [_, _], _ => rfl
theorem ok_law_numbers (F : Fun K "_law_numbers" "_law_numbers" s__law_numbers f fd) (T : Tx w K mg) (F__law_row : Fc P w K mg base 1 "_law_row" spRow) : FnR P w K mg base CX0 2 f (spNums K) := by
  refine raw_of F sc__law_numbers b__law_numbers (fun vs H Q E h => by obtain ⟨_, _, _, rfl, _⟩ := h; rfl) (fun cdv A outer s H vs Q E hr h => ?_)
  obtain ⟨F, sa, cells, rfl, sFH, hS, c63, q⟩ := h
  refine ⟨_, (pss_cons (ps_set (i := 2) sc__law_numbers.nd rfl (by first | exact Or.inl rfl | exact Or.inr rfl) (pe_slice sl_list (pv 0) po_none (po_some pe_int)))
    (pss_cons (ps_set (i := 3) sc__law_numbers.nd rfl (by first | exact Or.inl rfl | exact Or.inr rfl) (pe_op op_add pe_int (pe_op op_fdiv (pv 1) (pe_callB (call_max2 rfl) (by rfl) T.f_max (by decide +kernel) (pa_cons pe_int (pa_cons (pe_callB call_len_seq (by rfl) T.f_len PySem.boot_len (pa_cons (pv 2) pa_nil)) pa_nil))))))
    (pss_cons (ps_set (i := 4) sc__law_numbers.nd rfl (by first | exact Or.inl rfl | exact Or.inr rfl) (pe_lst pa_nil))
    (pss_cons (ps_for PassesOwn.never rfl (pi_seq (pv 2)) (pg_name (i := 5) sc__law_numbers.nd rfl (by first | exact Or.inl rfl | exact Or.inr rfl))
      (pss_one (ps_for PassesOwn.never rfl (pi_seq (pe_cl F__law_row (hr.mono (by omega)) (pa_cons (pv 5) (pa_cons (pv 3) pa_nil)))) (pg_name (i := 6) sc__law_numbers.nd rfl (by first | exact Or.inl rfl | exact Or.inr rfl))
        (pss_one (ps_expr (pe_bm PySem.F.plainAttrs_list PySem.F.slot_list_append PySem.F.type_list_append mt_append (pv 4) (pa_cons (pv 6) pa_nil)))))))
    (pss_cons (ps_while PassesOwn.never (pt_cmpR op_lt (pe_callB call_len_seq (by rfl) T.f_len PySem.boot_len (pa_cons (pv 4) pa_nil)) (pv 1) (nomark _))
      (pss_one (ps_expr (pe_bm PySem.F.plainAttrs_list PySem.F.slot_list_append PySem.F.type_list_append mt_append (pv 4) (pa_cons pe_int pa_nil)))))
    (pss_one (ps_ret (pe_slice sl_list (pv 4) po_none (po_some (pv 1)))))))))), ?_⟩
  refine sq ⟨_, rfl, _, rfl, sa, _, rfl, hS, fun cl hcl => ?_⟩
  have ecut : cutV (cells.map V.int) none (some 63) = cells.map V.int := by
    unfold cutV
    rw [HT.sIx_none, show (some (63 : Int)) = some ((63 : Nat) : Int) from rfl, HT.sIx_nat, List.length_map, List.drop_zero, List.take_of_length_le (by rw [List.length_map]; omega)]
  rw [ecut]
  have e1 := (Eff.refl sFH (M := [])).put hcl (o := .lst (cells.map V.int))
  have hC : SqL K (upd H cl (.lst (cells.map V.int))) cl _ := SqL.of upd_same
  have hCF : (upd F cl (.lst (cells.map V.int))) cl = some (.lst (cells.map V.int)) := upd_same
  generalize (upd H cl (.lst (cells.map V.int))) = H1 at *
  generalize (upd F cl (.lst (cells.map V.int))) = F1 at *
  dsimp only
  have hev : ∃ each : Nat, 1 + 160 / (if ((cells.map V.int).length : Int) > 1 then ((cells.map V.int).length : Int) else 1) = (each : Int) ∧ each ≤ 161 := by
    have dpos : 0 < (if ((cells.map V.int).length : Int) > 1 then ((cells.map V.int).length : Int) else 1) := by split <;> omega
    have d0 : 0 ≤ 160 / (if ((cells.map V.int).length : Int) > 1 then ((cells.map V.int).length : Int) else 1) := Int.ediv_nonneg (by decide) (Int.le_of_lt dpos)
    have d1 : 160 / (if ((cells.map V.int).length : Int) > 1 then ((cells.map V.int).length : Int) else 1) ≤ 160 := Int.ediv_le_self _ (by decide)
    obtain ⟨m, hm⟩ := Int.eq_ofNat_of_zero_le d0
    exact ⟨1 + m, by rw [hm]; omega, by omega⟩
  obtain ⟨each, heach, h161⟩ := hev
  refine sq ⟨_, rfl, _, rfl, cl, _, rfl, .inl hC, _, _, rfl, _, _, rfl, rfl, ⟨?_, ?_⟩, _, _, rfl, rfl, ?_⟩
  · split <;> omega
  · have : (cells.map V.int).length ≤ 63 := by rw [List.length_map]; exact c63
    split <;> omega
  dsimp only
  rw [heach]
  refine sq ⟨Nat.zero_le _, fun nl hnl => ?_⟩
  have e2 := e1.loc hnl (o := .lst [])
  have fnl : F1 nl = none := e1.sub.free hnl
  have hnl0 : H nl = none := e1.none hnl
  dsimp only
  refine sq ⟨_, rfl, cl, rfl, for_seq (z := false) (xs := cells.map V.int) (fun i σ H' => ∃ (v5 v6 : Option V) (F' : Hp) (ns : List Int), σ = [some (.ref sa), some (.int 160), some (.ref cl), some (.int each), some (.ref nl), v5, v6] ∧ Eff [] F H F' H' ∧ Same F1 F' ∧ F' nl = none ∧ H' nl = some (.lst (ns.map V.int)) ∧ ns.length = i * each ∧ ∀ n ∈ ns, 0 ≤ n) ?_ ?_ ?_ ?_⟩
  · exact ⟨_, _, F1, [], rfl, e2, fun _ _ h => h, fnl, upd_same, (Nat.zero_mul _).symm, fun n h => by cases h⟩
  · rintro i σ H3 _ ⟨_, _, F3, _, _, e3, s3, _⟩
    exact e3.sub _ _ (s3 _ _ hCF)
  · rintro i y σ H3 hy ⟨v5, v6, F3, ns, rfl, e3, s3, f3, h3, l3, n3⟩
    have i63 : i < 63 := by
      have := (List.getElem?_eq_some_iff.mp hy).1
      rw [List.length_map] at this
      omega
    rw [List.getElem?_map] at hy
    cases hc : cells[i]? with
    | none => rw [hc] at hy; cases hy
    | some cell =>
      rw [hc] at hy
      cases hy
      refine ⟨_, rfl, _, rfl, F3, cell, each, rfl, e3.sub, by omega, fun r rs F4 H4 e4 hr rl rn => ⟨r, rfl, ?_⟩⟩
      have e34 := e3.pure e4
      have h4 : H4 nl = _ := e4.all _ _ h3
      have f4 : F4 nl = none := e4.fresh _ f3 (by rw [h3]; intro z; cases z)
      have bound : i * each ≤ 62 * 161 := Nat.mul_le_mul (by omega) h161
      refine for_seq (z := false) (xs := rs.map V.int) (fun j σ H' => ∃ (v6 : Option V), σ = [some (.ref sa), some (.int 160), some (.ref cl), some (.int each), some (.ref nl), some (.int cell), v6] ∧ Eff [] F H F4 H' ∧ H' nl = some (.lst ((ns ++ rs.take j).map V.int))) ?_ ?_ ?_ ?_
      · refine ⟨_, rfl, e34, ?_⟩
        rw [List.take_zero, List.append_nil]
        exact h4
      · rintro j σ H5 _ ⟨_, _, e5, _⟩
        exact e5.sub _ _ hr
      · rintro j y σ H5 hy5 ⟨v6, rfl, e5, h5⟩
        rw [List.getElem?_map] at hy5
        cases hz : rs[j]? with
        | none => rw [hz] at hy5; cases hy5
        | some z =>
          rw [hz] at hy5
          cases hy5
          obtain ⟨_, _, htk⟩ := cut_at hz
          have jl := (List.getElem?_eq_some_iff.mp hz).1
          refine ⟨_, rfl, .inl ⟨rfl, _, SqL.of h5⟩, _, rfl, nl, _, _, rfl, rfl, h5, Nat.lt_of_le_of_lt (show _ ≤ 20000 by rw [List.length_map, List.length_append, List.length_take]; omega) (by decide), ?_⟩
          refine ⟨_, rfl, e5.wr f4 (.inr hnl0), ?_⟩
          rw [upd_same, htk, ← List.append_assoc, List.map_append (l₁ := ns ++ rs.take j)]
          rfl
      · rintro σ H5 ⟨v6, rfl, e5, h5⟩
        rw [List.length_map, List.take_length] at h5
        refine ⟨_, _, F4, ns ++ rs, rfl, e5, s3.trans e4.same, f4, h5, by rw [List.length_append, l3, rl, Nat.succ_mul], fun n h => ?_⟩
        rcases List.mem_append.mp h with h | h
        · exact n3 n h
        · exact rn n h
  · rintro σ H3 ⟨v5, v6, F3, ns, rfl, e3, s3, f3, h3, l3, n3⟩
    have lb : ns.length ≤ 63 * 161 := by
      rw [l3, List.length_map]
      exact Nat.mul_le_mul c63 h161
    refine sq ⟨fun m σ H' => ∃ (ns : List Int), m = 160 - ns.length ∧ ns.length ≤ 63 * 161 ∧ σ = [some (.ref sa), some (.int 160), some (.ref cl), some (.int each), some (.ref nl), v5, v6] ∧ Eff [] F H F3 H' ∧ H' nl = some (.lst (ns.map V.int)) ∧ ∀ n ∈ ns, 0 ≤ n, ⟨_, ns, rfl, lb, rfl, e3, h3, n3⟩, ?_⟩
    rintro m σ H4 ⟨ns4, hm, lb4, rfl, e4, h4, n4⟩
    refine ⟨_, rfl, nl, _, rfl, .inl (SqL.of h4), _, rfl, _, _, rfl, rfl, _, rfl, ?_⟩
    by_cases hlt : ns4.length < 160
    · rw [decide_eq_true (show (((ns4.map V.int).length : Nat) : Int) < 160 by rw [List.length_map]; omega)]
      refine iteT ⟨fun σ H' => ∃ (ns : List Int), ns.length = ns4.length + 1 ∧ σ = [some (.ref sa), some (.int 160), some (.ref cl), some (.int each), some (.ref nl), v5, v6] ∧ Eff [] F H F3 H' ∧ H' nl = some (.lst (ns.map V.int)) ∧ ∀ n ∈ ns, 0 ≤ n, fun σ' H' ⟨ns', g1, g2, g3, g4, g5⟩ => ⟨160 - ns'.length, by omega, ns', rfl, by omega, g2, g3, g4, g5⟩, ?_⟩
      refine ⟨_, rfl, .inl ⟨rfl, _, SqL.of h4⟩, nl, _, _, rfl, rfl, h4, Nat.lt_of_le_of_lt (show _ ≤ 1000 by rw [List.length_map]; omega) (by decide), ?_⟩
      refine ⟨ns4 ++ [0], by rw [List.length_append]; rfl, rfl, e4.wr f3 (.inr hnl0), ?_, fun n h => ?_⟩
      · rw [upd_same, List.map_append]
        rfl
      · rcases List.mem_append.mp h with h | h
        · exact n4 n h
        · rw [List.mem_singleton.mp h]
          exact Int.le_refl _
    · rw [decide_eq_false (show ¬ (((ns4.map V.int).length : Nat) : Int) < 160 by rw [List.length_map]; omega)]
      refine iteF ⟨_, rfl, _, rfl, _, rfl, nl, _, rfl, SqL.of h4, fun p hp => ?_⟩
      have ecut : cutV (ns4.map V.int) none (some 160) = (ns4.take 160).map V.int := by
        unfold cutV
        rw [HT.sIx_none, show (some (160 : Int)) = some ((160 : Nat) : Int) from rfl, HT.sIx_nat, List.length_map, List.drop_zero, Nat.min_eq_left (by omega), List.map_take]
      rw [ecut]
      exact q p (ns4.take 160) _ _ (e4.put hp) upd_same (by rw [List.length_take]; omega) fun n h => n4 n (List.mem_of_mem_take h)
end
end K6
set_option Elab.async false
set_option linter.all false
set_option maxRecDepth 100000
set_option maxHeartbeats 4000000
namespace K6
open PySem PySem.Spec PyProof.Rows L2
theorem lcr {n : Nat} {lo : Int} {H : Hp} {g : TG} {te : TE} {vs : List Nat} {σ : L2.St} {Q : VK} (hz : n ≤ 1000) (f : Nat → V)
    (hs : ∀ (i : Nat) H', i < n → Same H H' → ∀ k : VK, k (f i) H' → g (.int (lo + i)) (wipe σ vs) H' fun σ2 H2 => wipe σ2 vs = wipe σ vs ∧ te σ2 H2 k)
    (hd : ∀ D, H D = none → Q (.ref D) (upd H D (.lst ((List.range n).map f)))) : LcK (Itr lo n) g te vs σ H Q := by
  intro D nD
  refine ⟨fun i m H' => i + m = n ∧ H' = upd H D (.lst ((List.range i).map f)), ⟨n, Nat.zero_add _, rfl⟩, ?_⟩
  rintro i m H' ⟨him, rfl⟩
  cases m with
  | zero =>
    have : i = n := by omega
    subst this
    exact .inl ⟨Nat.le_refl _, hd D nD⟩
  | succ m =>
    refine .inr ⟨(show i < n by omega), fun H'' => i + 1 + m = n ∧ H'' = upd H D (.lst ((List.range (i + 1)).map f)), fun H'' h => ⟨m, Nat.lt_succ_self _, h⟩, ?_⟩
    rintro x H'' ⟨rfl, rfl⟩
    refine hs i _ (by omega) (same_new nD _) _ ⟨_, upd_same, Nat.lt_of_le_of_lt (show _ ≤ 1000 by rw [List.length_map, List.length_range]; omega) (by decide), by omega, ?_⟩
    rw [upd_upd, List.range_succ, List.map_append]
    rfl
theorem nodup_injS {f : Nat → Str} : ∀ {l : List Nat}, l.Nodup → (∀ a ∈ l, ∀ b ∈ l, f a = f b → a = b) → (l.map f).Nodup
  | [], _, _ => .nil
  | a :: l, h, hf => by
    rw [List.nodup_cons] at h
    rw [List.map_cons, List.nodup_cons]
    refine ⟨fun z => ?_, nodup_injS h.2 fun x hx y hy => hf x (List.mem_cons_of_mem _ hx) y (List.mem_cons_of_mem _ hy)⟩
    obtain ⟨b, hb, e⟩ := List.mem_map.mp z
    have := hf b (List.mem_cons_of_mem _ hb) a List.mem_cons_self e
    rw [this] at hb
    exact h.1 hb
abbrev LC : List Nat := TL.tl nameChars
theorem LC_len : LC.length = 36 := by decide +kernel
theorem LC_nodup : LC.Nodup := by decide +kernel
theorem LC_dig : ∀ i : Nat, i < 26 → ∀ c, LC[i]? = some c → c ∉ TL.tl digits := by
  have h : ((List.range 26).all fun i => match LC[i]? with | some c => !decide (c ∈ TL.tl digits) | none => true) = true := by decide +kernel
  intro i hi c hc
  have := List.all_eq_true.mp h i (List.mem_range.mpr hi)
  rw [hc] at this
  simpa using this
theorem pickL {n : Int} {m : Nat} (h0 : 0 ≤ n) (h1 : n < m) (hm : m ≤ 36) : ∃ c, LC[n.toNat]? = some c ∧ atI nameChars.cps.toList n = some c ∧ c ∈ LC := by
  have hj : n.toNat < LC.length := by rw [LC_len]; omega
  have e : LC[n.toNat]? = some LC[n.toNat] := List.getElem?_eq_getElem hj
  exact ⟨_, e, at_nat_ (Int.toNat_of_nonneg h0).symm e, List.mem_of_getElem? e⟩
theorem name_of {x : Str} {c : Nat} {cs : List Nat} (h : TL.tl x = c :: cs) (hl : x.length ≤ 12) (hc : c ∉ TL.tl digits) (ha : ∀ y ∈ TL.tl x, y ∈ LC) : isNameB x = true := by
  have h' : x.cps.toList = c :: cs := h
  have l1 : x.length = (c :: cs).length := by rw [TL.len_tl, h]
  have e1 : decide (1 ≤ x.length) = true := decide_eq_true (by rw [l1]; exact Nat.succ_le_succ (Nat.zero_le _))
  have e2 : decide (x.length ≤ 12) = true := decide_eq_true hl
  have e3 : decide (c ∈ digits.cps.toList) = false := decide_eq_false hc
  have e4 : ((c :: cs).all fun c => decide (c ∈ nameChars.cps.toList)) = true := by
    rw [List.all_eq_true]
    intro y hy
    exact decide_eq_true (ha y (by rw [h]; exact hy))
  simp only [isNameB, e1, e2, h', e3, e4, Bool.true_and, Bool.not_false, Bool.and_true]
theorem cut_lo (x : Str) (p : Nat) (hp : p ≤ x.length) : TL.tl (cutS x none (some (p : Int))) = (TL.tl x).take p := by
  unfold cutS
  rw [HT.sIx_none, HT.sIx_nat, Nat.min_eq_left hp, List.drop_zero, Nat.sub_zero]
theorem cut_hi (x : Str) (p : Nat) (hp : p ≤ x.length) : TL.tl (cutS x (some (p : Int)) none) = (TL.tl x).drop p := by
  unfold cutS
  rw [HT.sIx_none, HT.sIx_nat, Nat.min_eq_left hp]
  show List.take _ _ = _
  refine List.take_of_length_le ?_
  rw [List.length_drop, TL.len_tl]
  exact Nat.le_refl _
/-- the k-th name -/
def nmk (x : Str) (p : Nat) (sh : Int) (i : Nat) : Str := cutS x none (some (p : Int)) ++ (⟨#[(LC[((sh + (0 + (i : Int))) % 36).toNat]?).getD 0]⟩ : Str) ++ cutS x (some (p : Int)) none
theorem nmk_tl {x : Str} {p : Nat} {sh : Int} {i : Nat} (hp : p ≤ x.length) : TL.tl (nmk x p sh i) = (TL.tl x).take p ++ [(LC[((sh + (0 + (i : Int))) % 36).toNat]?).getD 0] ++ (TL.tl x).drop p := by
  unfold nmk
  rw [TL.tl_append, TL.tl_append, cut_lo x p hp, cut_hi x p hp]
theorem nmk_inj {x : Str} {p : Nat} {sh : Int} (hp : p ≤ x.length) {a b : Nat} (ha : a < 30) (hb : b < 30) (h : nmk x p sh a = nmk x p sh b) : a = b := by
  have e := congrArg TL.tl h
  rw [nmk_tl hp, nmk_tl hp, List.append_assoc, List.append_assoc] at e
  have e2 := List.append_cancel_left e
  injection e2 with e3 _
  obtain ⟨c, h1, _, _⟩ := pickL (n := (sh + (0 + (a : Int))) % 36) (m := 36) (Int.emod_nonneg _ (by decide)) (Int.emod_lt_of_pos _ (by decide)) (Nat.le_refl _)
  obtain ⟨c', h1', _, _⟩ := pickL (n := (sh + (0 + (b : Int))) % 36) (m := 36) (Int.emod_nonneg _ (by decide)) (Int.emod_lt_of_pos _ (by decide)) (Nat.le_refl _)
  rw [h1, h1'] at e3
  have e3 : c = c' := e3
  subst e3
  have := nd_ix LC_nodup h1 h1'
  have q1 := Int.emod_nonneg (sh + (0 + (a : Int))) (show (36 : Int) ≠ 0 by decide)
  have q2 := Int.emod_nonneg (sh + (0 + (b : Int))) (show (36 : Int) ≠ 0 by decide)
  omega
theorem nmk_ok {x : Str} {p : Nat} {sh : Int} {i c0 : Nat} {cs : List Nat} (hx : TL.tl x = c0 :: cs) (hp0 : 1 ≤ p) (hp : p ≤ x.length) (hl : x.length ≤ 11) (hc : c0 ∉ TL.tl digits) (ha : ∀ y ∈ TL.tl x, y ∈ LC) : isNameB (nmk x p sh i) = true := by
  obtain ⟨c, h1, _, h3⟩ := pickL (n := (sh + (0 + (i : Int))) % 36) (m := 36) (Int.emod_nonneg _ (by decide)) (Int.emod_lt_of_pos _ (by decide)) (Nat.le_refl _)
  have e := nmk_tl (sh := sh) (i := i) hp
  rw [h1] at e
  have e2 : TL.tl (nmk x p sh i) = c0 :: (cs.take (p - 1) ++ [c] ++ (TL.tl x).drop p) := by
    rw [e]
    conv => lhs; rw [hx]
    obtain ⟨p', rfl⟩ : ∃ p', p = p' + 1 := ⟨p - 1, by omega⟩
    rw [List.take_succ_cons, Nat.add_sub_cancel, hx]
    rfl
  refine name_of e2 ?_ hc ?_
  · have l1 : (TL.tl x).length = x.length := (TL.len_tl x).symm
    rw [TL.len_tl, e, List.length_append, List.length_append, List.length_take, List.length_drop, l1]
    show min p x.length + 1 + (x.length - p) ≤ 12
    omega
  · intro y hy
    rw [e] at hy
    rcases List.mem_append.mp hy with hy | hy
    · rcases List.mem_append.mp hy with hy | hy
      · exact ha y (List.mem_of_mem_take hy)
      · rw [List.mem_singleton.mp hy]
        exact h3
    · exact ha y (List.mem_of_mem_drop hy)
section
variable {P : Program} {w : World} {K : PySem.W.Frag} {mg : Str → Option Value} {base : Heap} {f : Addr} {fd : FuncData}
def spBegin : Sp := fun vs H Q _ => ∃ (F : Hp) (nu : Addr) (ns : List Int), vs = [.ref nu] ∧ Same F H ∧ F nu = some (.lst (ns.map V.int)) ∧ ns.length = 160 ∧ (∀ n ∈ ns, 0 ≤ n) ∧
  ∀ (dw na ca : Addr) (nm : List Str) (F' H' : Hp), H dw = none → H na = none → H ca = none → Eff [] F H F' H' → DrawAt F' H' dw na ca nm 0 → nm.Nodup → nm.length = 30 → (∀ x ∈ nm, isNameB x = true) → Q (.ref dw) H'
abbrev s__law_begin : Stmt := top 48
abbrev N__law_begin : List Str := ["_law_numbers_here", "_law_chars", "_law_prefix", "_law_k", "_law_place", "_law_shift", "_law_names"]
theorem sc__law_begin : FnScope N__law_begin ["_law_numbers_here"] (defScope s__law_begin) := ⟨rfl, rfl, rfl, by decide +kernel, rfl, by decide +kernel, by decide +kernel⟩
theorem b__law_begin (kV doc pm : Value) (an : Option Addr) (cdv ct : Value) (us : List Value) (hl : us.length = (["_law_numbers_here"] : List Str).length) : bindArgs (PySem.W.fnOf "_law_begin" "_law_begin" (defArgs s__law_begin) (defBody s__law_begin) (defScope s__law_begin) .none kV doc pm an cdv ct) ⟨us, []⟩ = pure ((["_law_numbers_here"] : List Str).zip us) := match us, hl with | [_], _ => rfl
theorem ok_law_begin (F : Fun K "_law_begin" "_law_begin" s__law_begin f fd) (T : Tx w K mg) : FnR P w K mg base CX0 1 f spBegin := by
  refine raw_of F sc__law_begin b__law_begin (fun vs H Q E h => by obtain ⟨_, _, _, rfl, _⟩ := h; rfl) (fun cdv A outer s H vs Q E hr h => ?_)
  obtain ⟨F, nu, ns, rfl, sFH, hnu, nl, n0, q⟩ := h
  refine ⟨_, (pss_cons (ps_set (i := 1) sc__law_begin.nd rfl (by first | exact Or.inl rfl | exact Or.inr rfl) pe_str)
    (pss_cons (ps_set (i := 2) sc__law_begin.nd rfl (by first | exact Or.inl rfl | exact Or.inr rfl) (pe_ix ix_str (pv 1) (pe_op op_mod (pe_callTy call_int1 (by rfl) T.f_int (by decide +kernel) (pa_cons (pe_ix ix_list (pv 0) pe_int (fun _ _ => rfl)) pa_nil)) pe_int) (fun _ _ => rfl)))
    (pss_cons (ps_for PassesOwn.never rfl (pi_range1 (by rfl) T.f_range (pa_cons (pe_op op_mod (pe_callTy call_int1 (by rfl) T.f_int (by decide +kernel) (pa_cons (pe_ix ix_list (pv 0) pe_int (fun _ _ => rfl)) pa_nil)) pe_int) pa_nil)) (pg_name (i := 3) sc__law_begin.nd rfl (by first | exact Or.inl rfl | exact Or.inr rfl))
      (pss_one (ps_set (i := 2) sc__law_begin.nd rfl (by first | exact Or.inl rfl | exact Or.inr rfl) (pe_op op_add_str (pv 2) (pe_ix ix_str (pv 1) (pe_op op_mod (pe_callTy call_int1 (by rfl) T.f_int (by decide +kernel) (pa_cons (pe_op op_add (pe_ix ix_list (pv 0) pe_int (fun _ _ => rfl)) (pe_op op_mul (pv 3) (pe_ix ix_list (pv 0) pe_int (fun _ _ => rfl)))) pa_nil)) pe_int) (fun _ _ => rfl))))))
    (pss_cons (ps_set (i := 4) sc__law_begin.nd rfl (by first | exact Or.inl rfl | exact Or.inr rfl) (pe_op op_add pe_int (pe_op op_mod (pe_callTy call_int1 (by rfl) T.f_int (by decide +kernel) (pa_cons (pe_ix ix_list (pv 0) pe_int (fun _ _ => rfl)) pa_nil)) (pe_callB call_len_str (by rfl) T.f_len PySem.boot_len (pa_cons (pv 2) pa_nil)))))
    (pss_cons (ps_set (i := 5) sc__law_begin.nd rfl (by first | exact Or.inl rfl | exact Or.inr rfl) (pe_callTy call_int1 (by rfl) T.f_int (by decide +kernel) (pa_cons (pe_ix ix_list (pv 0) pe_int (fun _ _ => rfl)) pa_nil)))
    (pss_cons (ps_setLcs (ps_setLc (i := 6) (own := [("_law_k", 3)]) (g := gName 3) (tt := tYes) rfl sc__law_begin.nd rfl rfl (sw_true rfl rfl rfl (by decide +kernel)) (pi_range1 (by rfl) T.f_range (pa_cons pe_int pa_nil)) (blkOk_by (own := [("_law_k", 3)]) (N := N__law_begin) (sc := defScope s__law_begin) (by decide +kernel)) (fun _ _ _ _ _ => (pg_name (i := 3) sc__law_begin.nd rfl (by first | exact Or.inl rfl | exact Or.inr rfl))) (fun _ _ _ _ _ => pts_nil) (fun _ _ _ _ _ => (pe_op op_add_str (pe_op op_add_str (pe_slice sl_str (pv 2) po_none (po_some (pv 4))) (pe_ix ix_str (pv 1) (pe_op op_mod (pe_callTy call_int1 (by rfl) T.f_int (by decide +kernel) (pa_cons (pe_op op_add (pv 5) (pv 3)) pa_nil)) pe_int) (fun _ _ => rfl))) (pe_slice sl_str (pv 2) (po_some (pv 4)) po_none)))))
    (pss_one (ps_ret (pe_lst (pa_cons (pv 0) (pa_cons pe_int (pa_cons (pv 6) (pa_cons (pe_lst pa_nil) pa_nil))))))))))))), ?_⟩
  have hN : SqL K H nu _ := SqL.of (sFH _ _ hnu)
  have get : ∀ i : Nat, i < 160 → ∃ n : Int, atI (ns.map V.int) (i : Int) = some (.int n) ∧ 0 ≤ n := fun i hi => by
    have hj : i < ns.length := by omega
    have e : ns[i]? = some ns[i] := List.getElem?_eq_getElem hj
    exact ⟨ns[i], at_nat_ rfl (by rw [List.getElem?_map, e]; rfl), n0 _ (List.mem_of_getElem? e)⟩
  obtain ⟨m0, a0, p0⟩ := get 0 (by decide)
  obtain ⟨m1, a1, p1⟩ := get 1 (by decide)
  obtain ⟨m2, a2, p2⟩ := get 2 (by decide)
  obtain ⟨m3, a3, p3⟩ := get 3 (by decide)
  obtain ⟨m4, a4, p4⟩ := get 4 (by decide)
  obtain ⟨m5, a5, p5⟩ := get 5 (by decide)
  have hz36 : nameChars.length ≤ sizeLine := by decide +kernel
  obtain ⟨c0, hc0, hc1, hc2⟩ := pickL (n := m0 % 26) (m := 26) (Int.emod_nonneg _ (by decide)) (Int.emod_lt_of_pos _ (by decide)) (by decide)
  have hdig := LC_dig _ (by have := Int.emod_lt_of_pos m0 (show (0 : Int) < 26 by decide); have := Int.emod_nonneg m0 (show (26 : Int) ≠ 0 by decide); omega) _ hc0
  refine sq (show tSeq _ _ _ _ _ from sq ⟨_, rfl, _, rfl, nu, _, _, _, rfl, rfl, hN, a0, .inl ⟨_, rfl, _, _, rfl, rfl, (by show (0 : Int) < 26; decide), nameChars, _, _, rfl, rfl, hz36, hc1, ?_⟩⟩)
  have r1 := Int.emod_nonneg m1 (show (11 : Int) ≠ 0 by decide)
  have r2 := Int.emod_lt_of_pos m1 (show (0 : Int) < 11 by decide)
  dsimp only
  refine sq ⟨_, rfl, nu, _, _, _, rfl, rfl, hN, a1, .inl ⟨_, rfl, _, _, rfl, rfl, (by show (0 : Int) < 11; decide), _, rfl, by omega, by omega, for_range (n := (m1 % 11).toNat) (fun i σ H' => ∃ (x : Str) (cs : List Nat) (v3 v4 v5 v6 : Option V), σ = [some (.ref nu), some (.str nameChars), some (.str x), v3, v4, v5, v6] ∧ H' = H ∧ TL.tl x = c0 :: cs ∧ cs.length = i ∧ ∀ y ∈ cs, y ∈ LC) ?_ ?_ ?_⟩⟩
  · exact ⟨_, [], _, _, _, _, rfl, rfl, rfl, rfl, fun y h => by cases h⟩
  · rintro i σ H1 hi ⟨x, cs, v3, v4, v5, v6, rfl, rfl, hx, hcl, hcs⟩
    have xl : x.length = i + 1 := by rw [TL.len_tl, hx, List.length_cons, hcl]
    obtain ⟨c, g1, g2, g3⟩ := pickL (n := (m2 + (0 + (i : Int)) * m3) % 36) (m := 36) (Int.emod_nonneg _ (by decide)) (Int.emod_lt_of_pos _ (by decide)) (Nat.le_refl _)
    refine ⟨_, rfl, _, rfl, _, rfl, nu, _, _, _, rfl, rfl, hN, a2, _, rfl, _, rfl, nu, _, _, _, rfl, rfl, hN, a3, _, _, rfl, rfl, .inl (by omega), _, _, rfl, rfl, .inl ⟨_, rfl, _, _, rfl, rfl, (by show (0 : Int) < 36; decide), nameChars, _, _, rfl, rfl, hz36, g2, _, _, rfl, rfl, ?_, ?_⟩⟩
    · exact len_le _ (by rw [xl]; show i + 1 + 1 ≤ 1000; omega)
    refine ⟨_, cs ++ [c], _, _, _, _, rfl, rfl, ?_, by rw [List.length_append, hcl]; rfl, fun y h => ?_⟩
    · rw [TL.tl_append, hx]
      rfl
    · rcases List.mem_append.mp h with h | h
      · exact hcs y h
      · rw [List.mem_singleton.mp h]
        exact g3
  · rintro σ H1 ⟨x, cs, v3, v4, v5, v6, rfl, rfl, hx, hcl, hcs⟩
    have xl : x.length = (m1 % 11).toNat + 1 := by rw [TL.len_tl, hx, List.length_cons, hcl]
    have hxs : ∀ y ∈ TL.tl x, y ∈ LC := by
      intro y hy
      rw [hx] at hy
      rcases List.mem_cons.mp hy with rfl | hy
      · exact hc2
      · exact hcs y hy
    have lp : (0 : Int) < (x.length : Nat) := by omega
    have q1 := Int.emod_nonneg m4 (show ((x.length : Nat) : Int) ≠ 0 by omega)
    have q2 := Int.emod_lt_of_pos m4 lp
    have hz : x.length ≤ sizeLine := len_le _ (by omega)
    obtain ⟨p, hp⟩ := Int.eq_ofNat_of_zero_le (show 0 ≤ 1 + m4 % ((x.length : Nat) : Int) by omega)
    have hp1 : 1 ≤ p := by omega
    have hp2 : p ≤ x.length := by omega
    refine sq ⟨_, rfl, nu, _, _, _, rfl, rfl, hN, a4, .inl ⟨_, rfl, _, rfl, x, rfl, hz, _, _, rfl, rfl, lp, _, _, rfl, rfl, ?_⟩⟩
    dsimp only
    rw [hp]
    refine sq ⟨_, rfl, nu, _, _, _, rfl, rfl, hN, a5, .inl ⟨_, rfl, ?_⟩⟩
    dsimp only
    refine sq ⟨30, rfl, by decide, by decide, lcr (n := 30) (by decide) (fun i => .str (nmk x p m5 i)) (fun i H' hi s k hk => ?_) (fun D nD => ?_)⟩
    · obtain ⟨c, g1, g2, g3⟩ := pickL (n := (m5 + (0 + (i : Int))) % 36) (m := 36) (Int.emod_nonneg _ (by decide)) (Int.emod_lt_of_pos _ (by decide)) (Nat.le_refl _)
      have z1 := cutS_length x none (some (p : Int))
      have z2 := cutS_length x (some (p : Int)) none
      have z3 : (⟨#[c]⟩ : Str).length = 1 := rfl
      refine ⟨rfl, _, rfl, _, rfl, _, rfl, x, rfl, hz, _, rfl, _, rfl, _, rfl, _, _, rfl, rfl, .inl ⟨_, rfl, _, _, rfl, rfl, (by show (0 : Int) < 36; decide), nameChars, _, _, rfl, rfl, hz36, g2, _, _, rfl, rfl, ?_, _, rfl, _, rfl, _, rfl, x, rfl, hz, _, _, rfl, rfl, ?_, ?_⟩⟩
      · rw [z3]
        exact len_le _ (by omega)
      · rw [Str.length_append, z3]
        exact len_le _ (by omega)
      · have ek : nmk x p m5 i = cutS x none (some (p : Int)) ++ (⟨#[c]⟩ : Str) ++ cutS x (some (p : Int)) none := by
          unfold nmk
          rw [g1]
          rfl
        rw [ek] at hk
        exact hk
    · have em : (List.range 30).map (fun i => V.str (nmk x p m5 i)) = ((List.range 30).map (nmk x p m5)).map V.str := by
        rw [List.map_map]
        rfl
      rw [em]
      have e1 := (Eff.refl sFH (M := [])).loc nD (o := .lst (((List.range 30).map (nmk x p m5)).map V.str))
      refine ⟨_, rfl, _, rfl, Nat.zero_le _, fun ca hca => ?_⟩
      have e2 := e1.loc hca (o := .lst [])
      have n3 : D ≠ ca := ne_of_none upd_same hca
      refine ⟨(by show 4 ≤ sizeLine; decide), fun dw hdw => ?_⟩
      have e3 := e2.loc hdw (o := .lst [.ref nu, .int 6, .ref D, .ref ca])
      have n2 : ca ≠ dw := ne_of_none upd_same hdw
      have n1 : D ≠ dw := ne_of_none ((upd_ne n3).trans upd_same) hdw
      refine q dw D ca ((List.range 30).map (nmk x p m5)) F _ (e2.none hdw) nD (e1.none hca) e3 ⟨e3.sub, ⟨nu, 6, ns, upd_same, by decide, hnu, (by intro z; rw [z] at nl; cases nl), n0⟩, (upd_ne n1).trans ((upd_ne n3).trans upd_same), ⟨[], (upd_ne n2).trans upd_same, rfl⟩, sFH.free (e2.none hdw), sFH.free nD, sFH.free (e1.none hca), n1.symm, n2.symm, n3⟩ (nodup_injS List.nodup_range fun a ha b hb h => nmk_inj hp2 (List.mem_range.mp ha) (List.mem_range.mp hb) h) (by rw [List.length_map, List.length_range]) fun y hy => ?_
      obtain ⟨i, _, rfl⟩ := List.mem_map.mp hy
      exact nmk_ok hx hp1 hp2 (by omega) hdig hxs
end
end K6
set_option Elab.async false
set_option linter.all false
set_option maxRecDepth 100000
set_option maxHeartbeats 4000000
namespace K6
open PySem PySem.Spec L2
/-! ### the frozen form as data -/
def dv : V → PyData
  | .str x => .str x
  | .int i => .int i
  | _ => .none
def dat : (d : Nat) → Itm d → PyData
  | 0, x => nomatch (show Empty from x)
  | d + 1, x => match (x : ItF (Itm d)) with
    | .pl p => .tuple (p.vs.map dv)
    | .rep n u b => .tuple [.str "repeat", .str n, dv u.v, .tuple (b.map (dat d))]
    | .eit n bs => .tuple [.str "either", .str n, .tuple (bs.map fun b => .tuple (b.map (dat d)))]
    | .swi n t cs => .tuple [.str "switch", .str n, .str t, .tuple (cs.map fun c => .tuple [.int c.1, .tuple (c.2.map (dat d))])]
theorem dp_all {K : PySem.W.Frag} {H : Hp} {α : Type} {P : V → α → Prop} {f : α → PyData} : ∀ {vs : List V} {l : List α}, Paired P vs l → (∀ v x, x ∈ l → P v x → Dp K H v (f x)) → DpAll K H vs (l.map f)
  | _, _, .nil, _ => .nil
  | _, _, .cons h r, g => .cons (g _ _ List.mem_cons_self h) (dp_all r fun v x hx => g v x (List.mem_cons_of_mem _ hx))
theorem u_flat (u : Use) : (∃ n, u.v = .int n) ∨ ∃ x, u.v = .str x := by
  cases u with
  | lit n => exact .inl ⟨n, rfl⟩
  | nam x => exact .inr ⟨x, rfl⟩
theorem p_flat (p : Plain) : ∀ v ∈ p.vs, (∃ n, v = .int n) ∨ ∃ x, v = .str x := by
  intro v hv
  cases p with
  | bytes x u =>
    simp only [Plain.vs, List.mem_cons, List.not_mem_nil, or_false] at hv
    rcases hv with rfl | rfl | rfl
    · exact .inr ⟨_, rfl⟩
    · exact .inr ⟨_, rfl⟩
    · exact u_flat u
  | _ =>
    simp only [Plain.vs, List.mem_cons, List.not_mem_nil, or_false] at hv
    rcases hv with rfl | rfl | rfl | rfl | rfl | rfl <;> first | exact .inl ⟨_, rfl⟩ | exact .inr ⟨_, rfl⟩
theorem dp_flat {K : PySem.W.Frag} {H : Hp} {v : V} (h : (∃ n, v = .int n) ∨ ∃ x, v = .str x) : Dp K H v (dv v) := by
  rcases h with ⟨n, rfl⟩ | ⟨x, rfl⟩
  · exact .int n
  · exact .str x
theorem dp_flats {K : PySem.W.Frag} {H : Hp} : ∀ {l : List V}, (∀ v ∈ l, (∃ n, v = .int n) ∨ ∃ x, v = .str x) → DpAll K H l (l.map dv)
  | [], _ => .nil
  | v :: l, h => .cons (dp_flat (h v List.mem_cons_self)) (dp_flats fun x hx => h x (List.mem_cons_of_mem _ hx))
theorem dp_seq {K : PySem.W.Frag} {H : Hp} {α : Type} {P : V → α → Prop} {f : α → PyData} {v : V} {l : List α} (h : IsSeq true H P v l) (g : ∀ v x, x ∈ l → P v x → Dp K H v (f x)) : Dp K H v (.tuple (l.map f)) := by
  obtain ⟨a, vs, rfl, ha, hp, _⟩ := h
  exact .tup (SqT.of ha) (dp_all hp g)
theorem dp_of {K : PySem.W.Frag} {H : Hp} : ∀ (d : Nat) (v : V) (x : Itm d), IsIt true H d v x → Dp K H v (dat d x)
  | 0, _, x, _ => nomatch (show Empty from x)
  | d + 1, v, .pl p, ⟨a, e, h⟩ => by
    subst e
    exact .tup (SqT.of (show H a = some (.tup p.vs) from h)) (dp_flats (p_flat p))
  | d + 1, v, .rep n u b, ⟨a, e, w', h, hb⟩ => by
    subst e
    exact .tup (SqT.of h) (.cons (.str _) (.cons (.str _) (.cons (dp_flat (u_flat u)) (.cons (dp_seq hb fun v x _ hx => dp_of d v x hx) .nil))))
  | d + 1, v, .eit n bs, ⟨a, e, w', h, hb⟩ => by
    subst e
    exact .tup (SqT.of h) (.cons (.str _) (.cons (.str _) (.cons (dp_seq hb fun v b _ hx => dp_seq hx fun v x _ hx => dp_of d v x hx) .nil)))
  | d + 1, v, .swi n t cs, ⟨a, e, w', h, hb⟩ => by
    subst e
    exact .tup (SqT.of h) (.cons (.str _) (.cons (.str _) (.cons (.str _) (.cons (dp_seq hb fun v c _ ⟨e, w2, h1, h2, h3⟩ => by
      subst h1
      exact .tup (SqT.of h2) (.cons (.int _) (.cons (dp_seq h3 fun v x _ hx => dp_of d v x hx) .nil))) .nil))))
theorem dp_items {K : PySem.W.Frag} {H : Hp} {d : Nat} {v : V} {l : List (Itm d)} (h : IsIts true H d v l) : Dp K H v (.tuple (l.map (dat d))) := dp_seq h fun v x _ hx => dp_of d v x hx
/-! ### small texts, small depth -/
theorem lay_all {l : List PyData} (h : ∀ d ∈ l, d.canLay0 = true) : PyData.canLayAll0 l = true := by
  induction l with
  | nil => rfl
  | cons a l ih =>
    rw [PyData.canLayAll0, h a List.mem_cons_self, ih fun d hd => h d (List.mem_cons_of_mem _ hd)]
    rfl
theorem lay_tup {l : List PyData} (h : ∀ d ∈ l, d.canLay0 = true) : (PyData.tuple l).canLay0 = true := by
  rw [PyData.canLay0]
  exact lay_all h
theorem dep_all {l : List PyData} {k : Nat} (h : ∀ d ∈ l, d.depth ≤ k) : PyData.depthAll l ≤ k := by
  induction l with
  | nil => exact Nat.zero_le _
  | cons a l ih =>
    rw [PyData.depthAll]
    exact Nat.max_le.mpr ⟨h a List.mem_cons_self, ih fun d hd => h d (List.mem_cons_of_mem _ hd)⟩
theorem dep_tup {l : List PyData} {k : Nat} (h : ∀ d ∈ l, d.depth ≤ k) : (PyData.tuple l).depth ≤ k + 1 := by
  rw [PyData.depth]
  exact Nat.succ_le_succ (dep_all h)
theorem dep_dv (v : V) : (dv v).depth = 0 := by cases v <;> rfl
theorem dep_of : ∀ (d : Nat) (x : Itm d), (dat d x).depth ≤ 4 * d
  | 0, x => nomatch (show Empty from x)
  | d + 1, .pl p => by
    refine Nat.le_trans (dep_tup (k := 0) fun y hy => ?_) (by omega)
    obtain ⟨v, _, rfl⟩ := List.mem_map.mp hy
    rw [dep_dv]
    exact Nat.le_refl _
  | d + 1, .rep n u b => by
    refine Nat.le_trans (dep_tup (k := 4 * d + 1) fun y hy => ?_) (by omega)
    simp only [List.mem_cons, List.not_mem_nil, or_false] at hy
    rcases hy with rfl | rfl | rfl | rfl
    · exact Nat.zero_le _
    · exact Nat.zero_le _
    · rw [dep_dv]; exact Nat.zero_le _
    · refine dep_tup fun y hy => ?_
      obtain ⟨x, _, rfl⟩ := List.mem_map.mp hy
      exact dep_of d x
  | d + 1, .eit n bs => by
    refine Nat.le_trans (dep_tup (k := 4 * d + 2) fun y hy => ?_) (by omega)
    simp only [List.mem_cons, List.not_mem_nil, or_false] at hy
    rcases hy with rfl | rfl | rfl
    · exact Nat.zero_le _
    · exact Nat.zero_le _
    · refine dep_tup fun y hy => ?_
      obtain ⟨b, _, rfl⟩ := List.mem_map.mp hy
      refine dep_tup fun y hy => ?_
      obtain ⟨x, _, rfl⟩ := List.mem_map.mp hy
      exact dep_of d x
  | d + 1, .swi n t cs => by
    refine Nat.le_trans (dep_tup (k := 4 * d + 3) fun y hy => ?_) (by omega)
    simp only [List.mem_cons, List.not_mem_nil, or_false] at hy
    rcases hy with rfl | rfl | rfl | rfl
    · exact Nat.zero_le _
    · exact Nat.zero_le _
    · exact Nat.zero_le _
    · refine dep_tup fun y hy => ?_
      obtain ⟨c, _, rfl⟩ := List.mem_map.mp hy
      refine dep_tup fun y hy => ?_
      simp only [List.mem_cons, List.not_mem_nil, or_false] at hy
      rcases hy with rfl | rfl
      · exact Nat.zero_le _
      · refine dep_tup fun y hy => ?_
        obtain ⟨x, _, rfl⟩ := List.mem_map.mp hy
        exact dep_of d x
theorem nameChars_small : ∀ c ∈ TL.tl nameChars, c < 0x110000 := by decide +kernel
theorem ok_name {x : Str} (h : isNameB x = true) : (PyData.str x).canLay0 = true := by
  rw [PyData.canLay0]
  unfold PyData.strOk
  rw [← Array.all_toList, List.all_eq_true]
  intro c hc
  exact decide_eq_true (nameChars_small c ((name_all h).1 c hc))
theorem ok_use {vis : Env1} {most : Int} {u : Use} (hv : VisN vis) (h : UseOk vis most u) : (dv u.v).canLay0 = true := by
  cases u with
  | lit n => rfl
  | nam x =>
    obtain ⟨lo, hi, h1, _⟩ := h
    exact ok_name (hv _ h1)
theorem lay_plain {vis : Env1} {p : Plain} (hv : VisN vis) (hn : isNameB p.name = true) (h : OkP vis p) : ∀ v ∈ p.vs, (dv v).canLay0 = true := by
  intro v hm
  cases p with
  | number x s o l h' =>
    obtain ⟨h1, h2, h3, h4⟩ := h
    simp only [Plain.vs, List.mem_cons, List.not_mem_nil, or_false] at hm
    rcases hm with rfl | rfl | rfl | rfl | rfl | rfl
    · decide +kernel
    · exact ok_name hn
    · rfl
    · rcases h2 with rfl | rfl <;> decide +kernel
    · rfl
    · rfl
  | bytes x u =>
    simp only [Plain.vs, List.mem_cons, List.not_mem_nil, or_false] at hm
    rcases hm with rfl | rfl | rfl
    · decide +kernel
    · exact ok_name hn
    · exact ok_use hv (show UseOk vis 64 u from h)
  | text x s m =>
    simp only [Plain.vs, List.mem_cons, List.not_mem_nil, or_false] at hm
    rcases hm with rfl | rfl | rfl | rfl
    · decide +kernel
    · exact ok_name hn
    · rfl
    · rfl
  | check x m =>
    simp only [Plain.vs, List.mem_cons, List.not_mem_nil, or_false] at hm
    rcases hm with rfl | rfl | rfl
    · decide +kernel
    · exact ok_name hn
    · rfl
  | pad x m b =>
    simp only [Plain.vs, List.mem_cons, List.not_mem_nil, or_false] at hm
    rcases hm with rfl | rfl | rfl | rfl
    · decide +kernel
    · exact ok_name hn
    · rfl
    · rfl
theorem lay_of : ∀ (d : Nat) (x : Itm d), OkN d x → (dat d x).canLay0 = true
  | 0, x, _ => nomatch (show Empty from x)
  | d + 1, .pl p, ⟨vis, hv, h⟩ => by
    refine lay_tup fun y hy => ?_
    obtain ⟨v, hm, rfl⟩ := List.mem_map.mp hy
    exact lay_plain hv h.1 h.2 v hm
  | d + 1, .rep n u b, h => by
    have hb := okN_blocks h b (List.mem_singleton.mpr rfl)
    obtain ⟨vis, hv, h⟩ := h
    refine lay_tup fun y hy => ?_
    simp only [List.mem_cons, List.not_mem_nil, or_false] at hy
    rcases hy with rfl | rfl | rfl | rfl
    · decide +kernel
    · exact ok_name h.1
    · exact ok_use hv h.2.2.1
    · refine lay_tup fun y hy => ?_
      obtain ⟨x, hx, rfl⟩ := List.mem_map.mp hy
      exact lay_of d x (hb x hx)
  | d + 1, .eit n bs, h => by
    have hb := okN_blocks h
    obtain ⟨vis, hv, h⟩ := h
    refine lay_tup fun y hy => ?_
    simp only [List.mem_cons, List.not_mem_nil, or_false] at hy
    rcases hy with rfl | rfl | rfl
    · decide +kernel
    · exact ok_name h.1
    · refine lay_tup fun y hy => ?_
      obtain ⟨b, hbm, rfl⟩ := List.mem_map.mp hy
      refine lay_tup fun y hy => ?_
      obtain ⟨x, hx, rfl⟩ := List.mem_map.mp hy
      exact lay_of d x (hb b hbm x hx)
  | d + 1, .swi n t cs, h => by
    have hb := okN_blocks h
    obtain ⟨vis, hv, h⟩ := h
    refine lay_tup fun y hy => ?_
    simp only [List.mem_cons, List.not_mem_nil, or_false] at hy
    rcases hy with rfl | rfl | rfl | rfl
    · decide +kernel
    · exact ok_name h.1
    · obtain ⟨lo, hi, ht⟩ := h.2.2.1
      exact ok_name (hv _ ht)
    · refine lay_tup fun y hy => ?_
      obtain ⟨c, hc, rfl⟩ := List.mem_map.mp hy
      refine lay_tup fun y hy => ?_
      simp only [List.mem_cons, List.not_mem_nil, or_false] at hy
      rcases hy with rfl | rfl
      · rfl
      · refine lay_tup fun y hy => ?_
        obtain ⟨x, hx, rfl⟩ := List.mem_map.mp hy
        exact lay_of d x (hb c.2 (List.mem_map.mpr ⟨c, hc, rfl⟩) x hx)
theorem shaped_items {l : List (Itm 4)} (h : ∀ x ∈ l, OkN 4 x) : SeqAt.shaped (.tuple (l.map (dat 4))) = true := by
  refine Bool.and_eq_true_iff.mpr ⟨lay_tup fun y hy => ?_, decide_eq_true (Nat.le_trans (dep_tup (k := 16) fun y hy => ?_) (by decide))⟩
  · obtain ⟨x, hx, rfl⟩ := List.mem_map.mp hy
    exact lay_of 4 x (h x hx)
  · obtain ⟨x, hx, rfl⟩ := List.mem_map.mp hy
    exact dep_of 4 x
theorem eqv_items {l : List (Itm 4)} (h : ∀ x ∈ l, OkN 4 x) : PyData.eqv (.tuple (l.map (dat 4))) (.tuple (l.map (dat 4))) = true := PySem.SeqAt.eqv_refl _ (Bool.and_eq_true_iff.mp (shaped_items h)).1
theorem dp_names {K : PySem.W.Frag} {H : Hp} {a : Addr} {ns : List Str} (h : H a = some (.tup (ns.map V.str))) : Dp K H (.ref a) (.tuple (ns.map PyData.str)) := by
  refine .tup (SqT.of h) ?_
  clear h
  induction ns with
  | nil => exact .nil
  | cons x ns ih => exact .cons (.str x) ih
theorem shaped_names {ns : List Str} (h : ∀ x ∈ ns, isNameB x = true) : SeqAt.shaped (.tuple (ns.map PyData.str)) = true := by
  refine Bool.and_eq_true_iff.mpr ⟨lay_tup fun y hy => ?_, decide_eq_true (Nat.le_trans (dep_tup (k := 0) fun y hy => ?_) (by decide))⟩
  · obtain ⟨x, hx, rfl⟩ := List.mem_map.mp hy
    exact ok_name (h x hx)
  · obtain ⟨x, hx, rfl⟩ := List.mem_map.mp hy
    exact Nat.le_refl _
theorem eqv_names {ns : List Str} (h : ∀ x ∈ ns, isNameB x = true) : PyData.eqv (.tuple (ns.map PyData.str)) (.tuple (ns.map PyData.str)) = true := PySem.SeqAt.eqv_refl _ (Bool.and_eq_true_iff.mp (shaped_names h)).1
end K6
set_option Elab.async false
set_option linter.all false
set_option maxRecDepth 100000
set_option maxHeartbeats 4000000
namespace K6
open PySem PySem.Spec PyProof.Rows L2
section
variable {P : Program} {w : World} {K : PySem.W.Frag} {mg : Str → Option Value} {base : Heap} {f : Addr} {fd : FuncData}
def spLaw (K : PySem.W.Frag) : Sp := fun vs H Q _ => ∃ (a : Addr) (ns : List Int), vs = [.ref a] ∧ ns.length ≤ 63 ∧ SqL K H a (ns.map V.int) ∧ ∀ H', Q (.bl true) H'
theorem nd_same (v : V) : (!decide (v = v)) = false := by rw [decide_eq_true rfl]; rfl
def smallL : List (Itm 4) := [(ItF.pl (.bytes "b" (.lit 64)) : ItF (Itm 3))]
theorem small_txt : txtOf 4 smallL = "bytes b 64" := by decide +kernel
theorem small_vis : VisN [] := fun q h => by cases h
theorem small_okI : OkI 4 [] (ItF.pl (.bytes "b" (.lit 64)) : ItF (Itm 3)) := ⟨by decide +kernel, by decide, by decide⟩
theorem small_ok : OkShape 4 smallL := ⟨(by intro h; cases h), by decide, by decide, by decide, ⟨small_okI, trivial⟩, by decide +kernel, by decide +kernel, by decide +kernel⟩
theorem small_n : ∀ y ∈ smallL, OkN 4 y := okL_memN small_vis (⟨small_okI, trivial⟩ : OkL (OkI 4) [] smallL)
theorem fok_of {x qual : Str} {st : Stmt} {f : Addr} {fd : FuncData} {N ps : List Str} {k : Nat} {sp : Sp} (F : Fun K x qual st f fd) (S : FnScope N ps (defScope st)) (len : ∀ vs H Q E, sp vs H Q E → vs.length = ps.length)
    (hbody : ∀ (cdv : Value) (A : Around) (outer : List Env) (s : Shared) (H : Hp) (vs : List V) (Q : VK) (E : XK), Room k (A.deeper (envOfC qual (defScope st) s.heap.objs.size f cdv)) → sp vs H Q E →
      ∃ t, PSs (cxOf CX0 P w K mg base N qual (defScope st) f cdv A outer s H E).nox (defBody st) t ∧ t { nx := fun _ H' => Q .non H', rt := Q } (start N vs) H) : FnOk P w K mg base CX0 (k + 1) f fd ps sp := F.ok S len hbody
theorem r_mkS {d i : Nat} {σ : L2.St} {F H : Hp} {v : V} {l : List (Itm d)} {Q : VK} (hσ : σ[i]? = some (some v)) (s : Same F H) (hl : IsIts false F d v l) (ok : OkShape d l) (q : ∀ a F' H', Eff [] F H F' H' → ShapeAt (CS K) F' d a l → Q (.ref a) H') :
    tMk (CS K) (spShape K d) (tCons (tVar i) tNil) σ H Q := ⟨_, hσ, mk_shape s hl ok q⟩
abbrev s_law : Stmt := top 59
abbrev N_law : List Str := ["_law_script", "_law_numbers_here", "_law_draw", "_law_items_here", "_law_text", "_law_shape", "_law_made", "_law_small"]
theorem sc_law : FnScope N_law ["_law_script"] (defScope s_law) := ⟨rfl, rfl, rfl, by decide +kernel, rfl, by decide +kernel, by decide +kernel⟩
theorem b_law (kV doc pm : Value) (an : Option Addr) (cdv ct : Value) (us : List Value) (hl : us.length = (["_law_script"] : List Str).length) : bindArgs (PySem.W.fnOf "law" "law" (defArgs s_law) (defBody s_law) (defScope s_law) .none kV doc pm an cdv ct) ⟨us, []⟩ = pure ((["_law_script"] : List Str).zip us) := match us, hl with | [_], _ => rfl
theorem ok_law (F : Fun K "law" "law" s_law f fd) (T : Tx w K mg) (F__law_numbers : Fc P w K mg base 2 "_law_numbers" (spNums K)) (F__law_begin : Fc P w K mg base 1 "_law_begin" spBegin) (F__law_items : Fc P w K mg base 18 "_law_items" (spItemsG 4)) (F__law_lines : Fc P w K mg base 5 "_law_lines" (spFmt 4)) (F_parse_shape : Fc P w K mg base 15 "parse_shape" (spParse K))
    (F_Shape_init : FnR P w K mg base CX0 11 (He.ma K (He.ga K "Shape") "__init__") (spShape K 4)) (F__law_frozen : Fc P w K mg base 5 "_law_frozen" (spFrozen 4)) (F_least_length : Pc P w K mg base 11 (CS K) "least_length" (spLen K 4 fun l => (l.map (least (numsL 4 l) 4)).sum)) (F_greatest_length : Pc P w K mg base 11 (CS K) "greatest_length" (spLen K 4 fun l => (l.map (great (numsL 4 l) 4)).sum)) (F_format_shape : Fc P w K mg base 6 "format_shape" (spFmtShape K 4)) : FnOk P w K mg base CX0 20 f fd ["_law_script"] (spLaw K) := by
  refine fok_of F sc_law (fun vs H Q E h => by obtain ⟨_, _, rfl, _⟩ := h; rfl) (fun cdv A outer s H vs Q E hr h => ?_)
  obtain ⟨a, ns, rfl, n63, hS, q⟩ := h
  refine ⟨_, (pss_cons (ps_set (i := 1) sc_law.nd rfl (by first | exact Or.inl rfl | exact Or.inr rfl) (pe_cl F__law_numbers (hr.mono (by omega)) (pa_cons (pv 0) (pa_cons pe_int pa_nil))))
    (pss_cons (ps_set (i := 2) sc_law.nd rfl (by first | exact Or.inl rfl | exact Or.inr rfl) (pe_cl F__law_begin (hr.mono (by omega)) (pa_cons (pv 1) pa_nil)))
    (pss_cons (ps_set (i := 3) sc_law.nd rfl (by first | exact Or.inl rfl | exact Or.inr rfl) (pe_cl F__law_items (hr.mono (by omega)) (pa_cons (pv 2) (pa_cons (pe_lst pa_nil) (pa_cons pe_int (pa_cons (pe_op op_add pe_int (pe_op op_mod (pe_callTy call_int1 (by rfl) T.f_int (by decide +kernel) (pa_cons (pe_ix ix_list (pv 1) pe_int (fun _ _ => rfl)) pa_nil)) pe_int)) pa_nil))))))
    (pss_cons (ps_set (i := 4) sc_law.nd rfl (by first | exact Or.inl rfl | exact Or.inr rfl) (pe_join pe_str (pe_cl F__law_lines (hr.mono (by omega)) (pa_cons (pv 3) pa_nil))))
    (pss_cons (ps_set (i := 5) sc_law.nd rfl (by first | exact Or.inl rfl | exact Or.inr rfl) (pe_cl F_parse_shape (hr.mono (by omega)) (pa_cons (pv 4) pa_nil)))
    (pss_cons (ps_set (i := 6) sc_law.nd rfl (by first | exact Or.inl rfl | exact Or.inr rfl) (pe_mk T.k_Shape T.g_Shape F_Shape_init (hr.mono (by omega)) (pa_cons (pv 3) pa_nil)))
    (pss_cons (ps_if (PW.pt (pw_or (pt_cmpR (op_neD hr.units) (pe_fld (pv 5) (by rfl)) (pe_cl F__law_frozen (hr.mono (by omega)) (pa_cons (pv 3) pa_nil)) (nomark _)) (pw_or1 (pt_cmpR (op_neD hr.units) (pe_fld (pv 5) (by rfl)) (pe_fld (pv 6) (by rfl)) (nomark _)))))
      (pss_one (ps_ret pe_bl))
      pss_nil)
    (pss_cons (ps_set (i := 7) sc_law.nd rfl (by first | exact Or.inl rfl | exact Or.inr rfl) (pe_cl F_parse_shape (hr.mono (by omega)) (pa_cons pe_str pa_nil)))
    (pss_cons (ps_if (PW.pt (pw_or (pt_cmpR (op_neD hr.units) (pe_fld (pv 7) (by rfl)) (pe_tup (pa_cons (pe_tup (pa_cons pe_str (pa_cons pe_str (pa_cons pe_int pa_nil)))) pa_nil)) (nomark _)) (pw_or1 (pt_cmpR op_ne (pe_pr (pv 7) T.c_Shape F_greatest_length (hr.mono (by omega)) (by rfl)) pe_int (nomark _)))))
      (pss_one (ps_ret pe_bl))
      pss_nil)
    (pss_cons (ps_if (PW.pt (pw_or (pt_cmpR op_ne (pe_pr (pv 5) T.c_Shape F_least_length (hr.mono (by omega)) (by rfl)) (pe_pr (pv 6) T.c_Shape F_least_length (hr.mono (by omega)) (by rfl)) (nomark _)) (pw_or1 (pt_cmpR op_ne (pe_pr (pv 5) T.c_Shape F_greatest_length (hr.mono (by omega)) (by rfl)) (pe_pr (pv 6) T.c_Shape F_greatest_length (hr.mono (by omega)) (by rfl)) (nomark _)))))
      (pss_one (ps_ret pe_bl))
      pss_nil)
    (pss_one (ps_ret (pe_and (pe_cmpR op_eq (pe_cl F_format_shape (hr.mono (by omega)) (pa_cons (pv 5) pa_nil)) (pv 4) (nomark _)) (pe_and (pe_cmpR op_eq (pe_cl F_format_shape (hr.mono (by omega)) (pa_cons (pv 6) pa_nil)) (pv 4) (nomark _)) (pe_one (pe_cmpR (op_eqD hr.units) (pe_fld (pe_cl F_parse_shape (hr.mono (by omega)) (pa_cons (pv 4) pa_nil)) (by rfl)) (pe_cl F__law_frozen (hr.mono (by omega)) (pa_cons (pv 3) pa_nil)) (nomark _))))))))))))))))), ?_⟩
  refine sq ⟨_, rfl, (fun _ => none), a, ns, rfl, (fun _ _ h => by cases h), hS, n63, fun nu nms F1 H1 e1 hnu l160 n0 => ?_⟩
  dsimp only
  refine sq ⟨_, rfl, F1, nu, nms, rfl, e1.sub, hnu, l160, n0, fun dw na ca nm F2 H2 d1 d2 d3 e2 dr2 nd len30 okn => ?_⟩
  dsimp only
  have hj : 6 < nms.length := by omega
  have hg6 : nms[6]? = some nms[6] := List.getElem?_eq_getElem hj
  generalize nms[6] = n6 at hg6
  have hat : atI (nms.map V.int) 6 = some (.int n6) := at_nat_ (j := 6) rfl (by rw [List.getElem?_map, hg6]; rfl)
  have r1 := Int.emod_nonneg n6 (show (12 : Int) ≠ 0 by decide)
  have r2 := Int.emod_lt_of_pos n6 (show (0 : Int) < 12 by decide)
  obtain ⟨many, hmany⟩ := Int.eq_ofNat_of_zero_le (show 0 ≤ 1 + n6 % 12 by omega)
  refine sq ⟨_, rfl, Nat.zero_le _, fun av hav => ?_⟩
  obtain ⟨i1, i2, i3⟩ := dr2.new hav
  have fav := dr2.sub.free hav
  have e3 := e2.loc hav (o := .lst [])
  have hnu3 : SqL K (upd H2 av (.lst [])) nu _ := SqL.of (e3.sub _ _ (e2.same _ _ hnu))
  refine ⟨_, rfl, nu, _, _, _, rfl, rfl, hnu3, hat, .inl ⟨_, rfl, _, _, rfl, rfl, (by show (0 : Int) < 12; decide), _, _, rfl, rfl, ?_⟩⟩
  refine ⟨F2, dw, na, ca, av, nm, 0, [], 0, many, (by show [V.ref dw, V.ref av, V.int 0, V.int (1 + n6 % 12)] = _; rw [hmany]), dr2.other i1 i2 i3 fav, ⟨i1, i2, i3, [], upd_same, .nil⟩, by decide, by decide, by decide, by omega, by decide, okn, fun v l F4 H4 tk nm4 e4 dr4 c4 hl okl hn hp hlen hne => ?_⟩
  have nmne : nm ≠ [] := by intro z; rw [z] at len30; cases len30
  have l0 : l ≠ [] := hne (by omega) nmne
  have ndl : (nmsL 4 l).Nodup := hp.nodup_iff.mpr ((List.nodup_append.mp (hn ▸ nd)).1)
  have nl30 : (nmsL 4 l).length ≤ 30 := by
    rw [hp.length_eq]
    have := congrArg List.length hn
    rw [List.length_append] at this
    omega
  have okS : OkShape 4 l := ⟨l0, by omega, by decide, by decide, okl, ndl, nl30, by omega⟩
  have okN : ∀ y ∈ l, OkN 4 y := okL_memN small_vis okl
  have okm : ∀ x ∈ nmsL 4 l, isNameB x = true := fun x hx => okn x (by rw [hn]; exact List.mem_append_left _ (hp.mem_iff.mp hx))
  dsimp only
  refine sq ⟨⟨_, rfl⟩, _, rfl, false, F4, v, l, rfl, dr4.sub, hl, okN, nl30, fun r F5 H5 e5 hr5 => ?_⟩
  refine ⟨_, r, _, rfl, rfl, .inl (SqL.of (e5.sub _ _ hr5)), Nat.le_trans (txt_sum okN nl30) (by decide), ?_⟩
  dsimp only
  have hl5 := isIts_mono e5.same hl
  refine sq ⟨_, rfl, F5, l, rfl, e5.sub, okS, okN, fun sa F6 H6 e6 hs6 => ?_⟩
  dsimp only
  have hl6 := isIts_mono e6.same hl5
  refine sq (r_mkS (i := 3) rfl e6.sub hl6 okS fun ma F7 H7 e7 hm7 => ?_)
  dsimp only
  have hl7 := isIts_mono e7.same hl6
  have hs7 := shapeAt_mono e7.same hs6
  obtain ⟨sdx, spv, stn, sbd, s1, s2, s3, s4, s5⟩ := hs7
  obtain ⟨mdx, mpv, mtn, mbd, m1, m2, m3, m4, m5⟩ := hm7
  refine sq ⟨_, rfl, sa, _, sdx, _, _, rfl, e7.sub _ _ s1, T.c_Shape, T.n_Shape_parts, shf_parts, _, rfl, F7, v, l, rfl, e7.sub, hl7, fun rz F8 H8 e8 hz8 => ?_⟩
  refine ⟨_, _, dp_items (isIts_mono (e8.same.trans e8.sub) s2), dp_items (isIts_mono e8.sub hz8), shaped_items okN, shaped_items okN, _, rfl, ?_⟩
  rw [eqv_items okN]
  refine iteF ?_
  have hs8 := shapeAt_mono e8.same (⟨sdx, spv, stn, sbd, s1, s2, s3, s4, s5⟩ : ShapeAt (CS K) F7 4 sa l)
  have hm8 := shapeAt_mono e8.same (⟨mdx, mpv, mtn, mbd, m1, m2, m3, m4, m5⟩ : ShapeAt (CS K) F7 4 ma l)
  have hl8 := isIts_mono e8.same hl7
  have sT : SqT K H8 stn _ := SqT.of (e8.sub _ _ (e8.same _ _ s3))
  refine ⟨_, rfl, sa, _, sdx, _, _, rfl, e8.sub _ _ (e8.same _ _ s1), T.c_Shape, T.n_Shape_names, shf_names, _, rfl, ma, _, mdx, _, _, rfl, e8.sub _ _ (e8.same _ _ m1), T.c_Shape, T.n_Shape_names, shf_names, ?_⟩
  refine ⟨_, _, dp_names (e8.sub _ _ (e8.same _ _ s3)), dp_names (e8.sub _ _ (e8.same _ _ m3)), shaped_names okm, shaped_names okm, _, rfl, ?_⟩
  rw [eqv_names okm]
  refine iteF ?_
  dsimp only
  refine sq ⟨F8, smallL, (by rw [small_txt]), e8.sub, small_ok, small_n, fun pa F9 H9 e9 hp9 => ?_⟩
  dsimp only
  have hs9 := shapeAt_mono e9.same hs8
  have hm9 := shapeAt_mono e9.same hm8
  have hl9 := isIts_mono e9.same hl8
  have hp9' := hp9
  obtain ⟨pdx, ppv, ptn, pbd, t1, t2, t3, t4, t5⟩ := hp9
  refine sq ⟨_, rfl, pa, _, pdx, _, _, rfl, e9.sub _ _ t1, T.c_Shape, T.n_Shape_parts, shf_parts, (by show 3 ≤ sizeLine; decide), fun p1 hp1 => ⟨(by show 1 ≤ sizeLine; decide), fun p2 hp2 => ?_⟩⟩
  have e10 := ((Eff.refl e9.sub (M := [])).put hp1 (o := .tup [.str "bytes", .str "b", .int 64])).put hp2 (o := .tup [.ref p1])
  have np := ne_of_none (upd_same (H := H9) (a := p1) (o := .tup [.str "bytes", .str "b", .int 64])) hp2
  have hT1 : SqT K (upd (upd H9 p1 (.tup [.str "bytes", .str "b", .int 64])) p2 (.tup [.ref p1])) p1 [.str "bytes", .str "b", .int 64] := SqT.of ((upd_ne np).trans upd_same)
  have hT2 : SqT K (upd (upd H9 p1 (.tup [.str "bytes", .str "b", .int 64])) p2 (.tup [.ref p1])) p2 [.ref p1] := SqT.of upd_same
  have dq : PyData.tuple (smallL.map (dat 4)) = .tuple [.tuple [.str "bytes", .str "b", .int 64]] := rfl
  refine ⟨_, .tuple [.tuple [.str "bytes", .str "b", .int 64]], dp_items (isIts_mono (e10.same.trans e10.sub) t2), .tup hT2 (.cons (.tup hT1 (.cons (.str _) (.cons (.str _) (.cons (.int _) .nil)))) .nil), shaped_items small_n, (by rw [← dq]; exact shaped_items small_n), _, rfl, ?_⟩
  rw [← dq, eqv_items small_n]
  refine iteF ?_
  have hp10 := shapeAt_mono e10.same hp9'
  have hs10 := shapeAt_mono e10.same hs9
  have hm10 := shapeAt_mono e10.same hm9
  have hl10 := isIts_mono e10.same hl9
  generalize (upd (upd H9 p1 (.tup [.str "bytes", .str "b", .int 64])) p2 (.tup [.ref p1])) = H10 at *
  generalize (upd (upd F9 p1 (.tup [.str "bytes", .str "b", .int 64])) p2 (.tup [.ref p1])) = F10 at *
  refine ⟨_, rfl, pa, pdx, _, rfl, e10.sub _ _ (e10.same _ _ t1), F10, pa, smallL, rfl, e10.sub, hp10, fun H11 s11 => ⟨rfl, _, rfl, ?_⟩⟩
  have g64 : (smallL.map (great (numsL 4 smallL) 4)).sum = 64 := by decide +kernel
  dsimp only
  rw [decide_eq_true (congrArg V.int g64)]
  refine iteF ?_
  try dsimp only
  have e11 : Eff [] F10 H10 F10 H11 := Eff.of_same e10.sub s11
  have gets : ∀ {H : Hp} {x : Addr}, Same F10 H → ShapeAt (CS K) F10 4 x l → ∃ dx fs, H x = some (.ins (CS K) dx fs) := fun s h => by
    obtain ⟨dx, pv, tn, bd, h1, _⟩ := h
    exact ⟨dx, _, s _ _ h1⟩
  obtain ⟨dx1, fs1, o1⟩ := gets e11.sub hs10
  refine sq ⟨_, rfl, sa, dx1, fs1, rfl, o1, F10, sa, l, rfl, e11.sub, hs10, fun H12 s12 => ?_⟩
  have u12 := e11.sub.trans s12
  obtain ⟨dx2, fs2, o2⟩ := gets u12 hm10
  refine ⟨_, rfl, ma, dx2, fs2, rfl, o2, F10, ma, l, rfl, u12, hm10, fun H13 s13 => ⟨rfl, _, rfl, ?_⟩⟩
  try dsimp only
  rw [nd_same]
  refine iteF ?_
  have u13 := u12.trans s13
  obtain ⟨dx3, fs3, o3⟩ := gets u13 hs10
  refine ⟨_, rfl, sa, dx3, fs3, rfl, o3, F10, sa, l, rfl, u13, hs10, fun H14 s14 => ?_⟩
  have u14 := u13.trans s14
  obtain ⟨dx4, fs4, o4⟩ := gets u14 hm10
  refine ⟨_, rfl, ma, dx4, fs4, rfl, o4, F10, ma, l, rfl, u14, hm10, fun H15 s15 => ⟨rfl, _, rfl, ?_⟩⟩
  try dsimp only
  rw [nd_same]
  refine iteF ?_
  have u15 := u14.trans s15
  try dsimp only
  refine ⟨_, rfl, F10, sa, l, rfl, u15, hs10, okN, nl30, fun H16 s16 => ⟨_, rfl, rfl, ckT (decide_eq_true rfl) ?_⟩⟩
  have u16 := u15.trans s16
  refine ⟨_, rfl, F10, ma, l, rfl, u16, hm10, okN, nl30, fun H17 s17 => ⟨_, rfl, rfl, ckT (decide_eq_true rfl) ?_⟩⟩
  have u17 := u16.trans s17
  refine ⟨_, rfl, F10, l, rfl, u17, okS, okN, fun qa F18 H18 e18 hq18 => ?_⟩
  obtain ⟨qdx, qpv, qtn, qbd, v1, v2, v3, v4, v5⟩ := hq18
  refine ⟨qa, _, qdx, _, _, rfl, e18.sub _ _ v1, T.c_Shape, T.n_Shape_parts, shf_parts, _, rfl, F18, v, l, rfl, e18.sub, isIts_mono e18.same hl10, fun rz F19 H19 e19 hz19 => ?_⟩
  refine ⟨_, _, dp_items (isIts_mono (e19.same.trans e19.sub) v2), dp_items (isIts_mono e19.sub hz19), shaped_items okN, shaped_items okN, ?_⟩
  rw [eqv_items okN]
  exact q _
end
end K6
set_option Elab.async false
set_option linter.all false
set_option maxRecDepth 100000
set_option maxHeartbeats 0
namespace K6
open PySem PySem.Spec PyProof.Rows L2
/-- a def of the top -/
def gD (x : Str) (i : Nat) : He5.DefA := ⟨fun K => He.ga K x, x, x, defArgs (top i), defBody (top i), defScope (top i), [], []⟩
/-- a method -/
def mD (c m : Str) (i j : Nat) : He5.DefA := ⟨fun K => He.ma K (He.ga K c) m, m, c ++ "." ++ m, defArgs (inClass (top i) j), defBody (inClass (top i) j), defScope (inClass (top i) j), [], []⟩
/-- a property's getter -/
def pget (K : PySem.W.Frag) (c m : Str) : Addr := match PySem.W.recIn K (He.ma K (He.ga K c) m) "property" with
  | some (.ref g :: _) => g
  | _ => 0
def pD (c m : Str) (i j : Nat) : He5.DefA := ⟨fun K => pget K c m, m, c ++ "." ++ m, defArgs (inClass (top i) j), defBody (inClass (top i) j), defScope (inClass (top i) j), [], []⟩
def fn : List He5.DefA := [gD "is_name" 21, gD "is_byte" 22, gD "blocks_of" 23, gD "copied" 24, gD "copied_items" 25, gD "bounds" 26, gD "least_of" 27, gD "least_of_items" 28, gD "greatest_of" 29, gD "greatest_of_items" 30,
  mD "ShapeCheck" "__init__" 31 0, mD "ShapeCheck" "require" 31 1, mD "ShapeCheck" "check_items" 31 2, mD "ShapeCheck" "check_plain" 31 3, mD "ShapeCheck" "check_uses" 31 4, mD "ShapeCheck" "check_lengths" 31 5,
  mD "Shape" "__init__" 32 0, pD "Shape" "least_length" 32 1, pD "Shape" "greatest_length" 32 2,
  gD "format_items" 37, gD "format_shape" 38, gD "is_integer" 39, gD "has_sort" 40, gD "parsed" 41,
  mD "ShapeReader" "__init__" 42 0, mD "ShapeReader" "next_word" 42 1, mD "ShapeReader" "take" 42 2, mD "ShapeReader" "take_items" 42 3, mD "ShapeReader" "take_item" 42 4, mD "ShapeReader" "take_blocks" 42 5,
  gD "parse_shape" 43, gD "_law_row" 45, gD "_law_numbers" 46, gD "_law_next" 47, gD "_law_begin" 48, gD "_law_number" 49, gD "_law_use" 50, gD "_law_block" 51, gD "_law_nested" 52, gD "_law_item" 53, gD "_law_items" 54,
  gD "_law_frozen" 56, gD "_law_lines" 58, gD "law" 59]
def fa : List He.Fa := [.glo "is_name", .glo "is_byte", .glo "blocks_of", .glo "copied", .glo "copied_items", .glo "bounds", .glo "least_of", .glo "least_of_items", .glo "greatest_of", .glo "greatest_of_items", .glo "format_items", .glo "format_shape", .glo "is_integer", .glo "has_sort", .glo "parsed", .glo "parse_shape", .glo "_law_row", .glo "_law_numbers", .glo "_law_next", .glo "_law_begin", .glo "_law_number", .glo "_law_use", .glo "_law_block", .glo "_law_nested", .glo "_law_item", .glo "_law_items", .glo "_law_frozen", .glo "_law_lines", .glo "law", .glo "PARTS", .glo "GREATEST", .glo "ORDERS", .glo "MULTIPLES", .glo "FORMS", .glo "ShapeCheck", .glo "Shape", .glo "ShapeReader", .free "len", .free "all", .free "list", .free "isinstance", .free "int", .free "sum", .free "min", .free "max", .free "tuple", .free "range", .free "abs", .free "str", .free "enumerate", .str "NAME_CHARS" "abcdefghijklmnopqrstuvwxyz0123456789", .str "DIGITS" "0123456789", .int "MOST_NAME_CHARS" 12, .int "MOST_ITEMS" 12, .int "MOST_NAMES" 30, .int "MOST_DEPTH" 3, .int "MOST_LENGTH" 64, .int "MOST_COUNT" 16, .int "MOST_CHOICES" 4, .int "MOST_CASES" 8, .int "MOST_MODULUS" 16, .int "MOST_DIGITS" 9, .cls "ShapeCheck", .cls "Shape", .cls "ShapeReader", .mkr "ShapeCheck", .mkr "Shape", .mkr "ShapeReader", .noat "ShapeCheck" "names", .noat "ShapeCheck" "numbers", .noat "ShapeCheck" "checks", .noat "Shape" "parts", .noat "Shape" "names", .noat "Shape" "bounds", .noat "ShapeReader" "lines", .noat "ShapeReader" "at", .meth "ShapeCheck" "require", .meth "ShapeCheck" "check_items", .meth "ShapeCheck" "check_plain", .meth "ShapeCheck" "check_uses", .meth "ShapeCheck" "check_lengths", .meth "ShapeReader" "next_word", .meth "ShapeReader" "take", .meth "ShapeReader" "take_items", .meth "ShapeReader" "take_item", .meth "ShapeReader" "take_blocks"]
def ts : List He.Tab := [(fun K => He.ga K "PARTS", ["number", "bytes", "text", "repeat", "either", "switch", "check", "pad"]),
  (fun K => He.ga K "FORMS", ["number", "bytes", "text", "repeat", "either", "switch", "check", "pad", "choice", "case", "end"])]
/-- a property of a class -/
def propB (K : PySem.W.Frag) (c m : Str) : Bool := He.eqO (PySem.W.findIn K (.ref (He.ga K c)) m) (some (some (.ref (He.ma K (He.ga K c) m)))) &&
  (He.eqO (PySem.W.specialIn K (.ref (He.ma K (He.ga K c) m)) "__get__") (some (some (.builtin "property.__get__"))) && (decide (PySem.W.takesIn K (.ref (He.ma K (He.ga K c) m)) = some true) &&
  (match PySem.W.recIn K (He.ma K (He.ga K c) m) "property" with
    | some (.ref _ :: _) => true
    | _ => false)))
theorem propB_ok {K : PySem.W.Frag} {c m : Str} (h : propB K c m = true) : PropOf K (He.ga K c) m (He.ma K (He.ga K c) m) (pget K c m) := by
  obtain ⟨h1, h⟩ := He.ba h
  obtain ⟨h2, h⟩ := He.ba h
  obtain ⟨h3, h4⟩ := He.ba h
  refine ⟨He.eqO_ok h1, He.eqO_ok h2, of_decide_eq_true h3, ?_⟩
  unfold pget
  split at h4
  · rename_i g r e
    exact ⟨r, by rw [e]⟩
  · cases h4
/-- a dict of ints by ints -/
def intE (e : DictEntry) : Option (Int × Int × Int) := match e.key, e.val with
  | .int i _, .int j _ => some (i, e.hash, j)
  | _, _ => none
def idicB (K : PySem.W.Frag) (x : Str) (kvs : List (Int × Int)) : Bool := match K.lookup (He.ga K x) with
  | some ⟨.type c, none, .dict es _, sl⟩ => decide (c = "dict") && (sl.isEmpty && (!(He.ga K x == sysModules) && decide (es.toList.map intE = kvs.map fun q => some (q.1, hashInt q.1, q.2))))
  | _ => false
def more (K : PySem.W.Frag) : Bool := propB K "Shape" "least_length" && (propB K "Shape" "greatest_length" && (idicB K "GREATEST" [(1, 255), (2, 65535)] &&
  (noParts.all (fun z => He.eqO (PySem.W.nsIn K (He.ga K "PARTS") z) (some none)) && (He.tupB K "ORDERS" [.str "big", .str "little"] && (He.tupB K "MULTIPLES" [.int 1, .int 2, .int 4, .int 8, .int 16] &&
  (He.valsB K (He.ga K "PARTS") [("number", .int 6), ("bytes", .int 3), ("text", .int 4), ("repeat", .int 4), ("either", .int 3), ("switch", .int 4), ("check", .int 3), ("pad", .int 4)] &&
  He.valsB K (He.ga K "FORMS") [("number", .str "name integer order integer integer"), ("bytes", .str "name use"), ("text", .str "name integer integer"), ("repeat", .str "name use"), ("either", .str "name"), ("switch", .str "name name"),
    ("check", .str "name integer"), ("pad", .str "name integer integer"), ("choice", .str ""), ("case", .str "integer"), ("end", .str "")]))))))
/-! ### the Hook -/
abbrev AlK : Type := He.AlD × List (Option (List (Option (Str × Int)))) × Bool
def obsK (K : PySem.W.Frag) : AlK := (He5.obsA fa fn K, ts.map fun t => He.dicW K (t.1 K), more K)
def valK (w : World) : AlK := (He5.valA fn, ts.map fun t => some (He.keysIn w.params t.2), true)
def SaysK (w : World) (K : PySem.W.Frag) : Prop := obsK K = valK w
def obsKG (g : Addr → Option Obj) : AlK := obsK (He.frG g (He5.asA g 5))
def hk : PySem.W.Hook where
  α := AlK
  obs := fun s => obsKG s.heap.get?
  val := fun w => valK w
  says := fun w h => ∃ K : PySem.W.Frag, K.In h ∧ SaysK w K
  of := fun _ _ e => ⟨_, He.frG_in, e⟩
  keeps := fun _ _ _ ⟨K, hK, c⟩ k => ⟨K, PySem.W.Frag.In.keeps hK k, c⟩
abbrev R : PySem.W.OpenRow := PySem.W.OpenLaw.row PySem.Challenge.rw_byteshape_k06_whole_text_and_back
def ob (s : PySem.W.SharedT) : AlK := obsKG (HandSHeadRun.getT s)
theorem ob_eq (s : PySem.W.SharedT) : ob s = hk.obs s.abs := by
  have e : HandSHeadRun.getT s = s.abs.heap.get? := funext (HandSHeadRun.getT_eq s)
  show obsKG (HandSHeadRun.getT s) = obsKG s.abs.heap.get?
  rw [e]
def loose1 : List Str := ["_wall", "ByteshapeError", "InvalidShape", "InvalidNotation", "UnknownName", "NAME_CHARS", "MOST_NAME_CHARS", "PARTS", "GREATEST", "ORDERS", "MOST_ITEMS", "MOST_NAMES", "MOST_DEPTH", "MOST_LENGTH", "MOST_COUNT", "MOST_CHOICES", "MOST_CASES", "MOST_MODULUS", "MULTIPLES",
  "is_name", "is_byte", "blocks_of", "copied", "copied_items", "bounds", "least_of", "least_of_items", "greatest_of", "greatest_of_items", "ShapeCheck", "Shape"]
def loose2 : List Str := ["DIGITS", "MOST_DIGITS", "FORMS", "format_items", "format_shape", "is_integer", "has_sort", "parsed", "ShapeReader", "parse_shape",
  "_law_row", "_law_numbers", "_law_next", "_law_begin", "_law_number", "_law_use", "_law_block", "_law_nested", "_law_item", "_law_items", "_law_blocks", "_law_frozen", "_law_walk", "_law_lines"]
def loose : List Str := loose1 ++ loose2
theorem run (w : World) : HandSHeadRun.RunEq R (PySem.W.view R.prog [59]) hk ob 6000 loose w :=
  PySem.W.byRow2 "special-get-raises" (P := fun w => HandSHeadRun.RunEq R (PySem.W.view R.prog [59]) hk ob 6000 loose w) (fun w os => by kernel_rfl) (fun w os => by kernel_rfl) w
/-! ### what the head's facts say -/
section
variable {w : World} {K : PySem.W.Frag}
theorem says_a (c : SaysK w K) : He5.SaysA fa fn K := congrArg (fun z : AlK => z.1) c
theorem fact_ (c : SaysK w K) (i : Nat) {f : He.Fa} (h : fa[i]? = some f) : f.ok K = true := (says_a c).fact i h
theorem says_t (c : SaysK w K) (i : Nat) {t : He.Tab} (h : ts[i]? = some t) : ∃ es n, KDict K w (t.1 K) es n := by
  have e : ts.map (fun t => He.dicW K (t.1 K)) = ts.map fun t => some (He.keysIn w.params t.2) := congrArg (fun z : AlK => z.2.1) c
  have e2 : (ts.map fun t => He.dicW K (t.1 K))[i]? = (ts.map fun t => some (He.keysIn w.params t.2))[i]? := by rw [e]
  rw [List.getElem?_map, List.getElem?_map, h] at e2
  exact He.dicW_ok (Option.some.inj e2)
theorem says_m (c : SaysK w K) : more K = true := congrArg (fun z : AlK => z.2.2) c
end
theorem idicB_ok {K : PySem.W.Frag} {x : Str} {kvs : List (Int × Int)} (h : idicB K x kvs = true) : KInt K (He.ga K x) kvs := by
  unfold idicB at h
  cases q : K.lookup (He.ga K x) with
  | none =>
    rw [q] at h
    cases h
  | some o =>
    obtain ⟨oc, od, dt, sl⟩ := o
    rw [q] at h
    cases oc with
    | type cn =>
      cases od with
      | none =>
        cases dt with
        | dict es n =>
          have h0 : (decide (cn = "dict") && (sl.isEmpty && (!(He.ga K x == sysModules) && decide (es.toList.map intE = kvs.map fun q => some (q.1, hashInt q.1, q.2))))) = true := h
          obtain ⟨h1, h2⟩ := He.ba h0
          obtain ⟨h3, h4⟩ := He.ba h2
          obtain ⟨h5, h6⟩ := He.ba h4
          have e1 : cn = "dict" := of_decide_eq_true h1
          have e2 : sl = #[] := Array.isEmpty_iff.mp h3
          subst e1 e2
          refine ⟨es, n, q, by simpa using h5, ?_⟩
          have e6 := of_decide_eq_true h6
          refine paired_of (by have := congrArg List.length e6; simpa using this) fun i e q h1 h2 => ?_
          have e7 : (es.toList.map intE)[i]? = (kvs.map fun q => some (q.1, hashInt q.1, q.2))[i]? := by rw [e6]
          rw [List.getElem?_map, List.getElem?_map, h1, h2] at e7
          have e8 : intE e = some (q.1, hashInt q.1, q.2) := Option.some.inj e7
          unfold intE at e8
          split at e8
          · rename_i i0 t j0 u hk hv
            simp only [Option.some.injEq, Prod.mk.injEq] at e8
            obtain ⟨rfl, e9, rfl⟩ := e8
            exact ⟨t, u, hk, e9, hv⟩
          · cases e8
        | _ => cases h
      | some b => cases dt <;> cases h
    | _ => cases od <;> cases dt <;> cases h
theorem tab_ok {K : PySem.W.Frag} {a : Addr} {kvs : List (Str × He.Dv)} (h : He.valsB K a kvs = true) {α : Type} {tab : List (Str × α)} {g : α → He.Dv} (e : kvs = tab.map fun q => (q.1, g q.2)) :
    ∀ q ∈ tab, ∃ u, PySem.W.nsIn K a q.1 = some (some u) ∧ RelV ((g q.2).v K) u := fun q hq => He.valsB_ok h (q := (q.1, g q.2)) (by rw [e]; exact List.mem_map.mpr ⟨q, hq, rfl⟩)
theorem tx_of {w : World} {K : PySem.W.Frag} {h : Heap} {mg : Str → Option Value} (X : K.In h) (G : h.Ns mainGlobals mg) (c : SaysK w K) : Tx w K mg where
  g_is_name := He.glo_ok X G (fact_ c 0 (f := .glo "is_name") rfl)
  g_is_byte := He.glo_ok X G (fact_ c 1 (f := .glo "is_byte") rfl)
  g_blocks_of := He.glo_ok X G (fact_ c 2 (f := .glo "blocks_of") rfl)
  g_copied := He.glo_ok X G (fact_ c 3 (f := .glo "copied") rfl)
  g_copied_items := He.glo_ok X G (fact_ c 4 (f := .glo "copied_items") rfl)
  g_bounds := He.glo_ok X G (fact_ c 5 (f := .glo "bounds") rfl)
  g_least_of := He.glo_ok X G (fact_ c 6 (f := .glo "least_of") rfl)
  g_least_of_items := He.glo_ok X G (fact_ c 7 (f := .glo "least_of_items") rfl)
  g_greatest_of := He.glo_ok X G (fact_ c 8 (f := .glo "greatest_of") rfl)
  g_greatest_of_items := He.glo_ok X G (fact_ c 9 (f := .glo "greatest_of_items") rfl)
  g_format_items := He.glo_ok X G (fact_ c 10 (f := .glo "format_items") rfl)
  g_format_shape := He.glo_ok X G (fact_ c 11 (f := .glo "format_shape") rfl)
  g_is_integer := He.glo_ok X G (fact_ c 12 (f := .glo "is_integer") rfl)
  g_has_sort := He.glo_ok X G (fact_ c 13 (f := .glo "has_sort") rfl)
  g_parsed := He.glo_ok X G (fact_ c 14 (f := .glo "parsed") rfl)
  g_parse_shape := He.glo_ok X G (fact_ c 15 (f := .glo "parse_shape") rfl)
  g__law_row := He.glo_ok X G (fact_ c 16 (f := .glo "_law_row") rfl)
  g__law_numbers := He.glo_ok X G (fact_ c 17 (f := .glo "_law_numbers") rfl)
  g__law_next := He.glo_ok X G (fact_ c 18 (f := .glo "_law_next") rfl)
  g__law_begin := He.glo_ok X G (fact_ c 19 (f := .glo "_law_begin") rfl)
  g__law_number := He.glo_ok X G (fact_ c 20 (f := .glo "_law_number") rfl)
  g__law_use := He.glo_ok X G (fact_ c 21 (f := .glo "_law_use") rfl)
  g__law_block := He.glo_ok X G (fact_ c 22 (f := .glo "_law_block") rfl)
  g__law_nested := He.glo_ok X G (fact_ c 23 (f := .glo "_law_nested") rfl)
  g__law_item := He.glo_ok X G (fact_ c 24 (f := .glo "_law_item") rfl)
  g__law_items := He.glo_ok X G (fact_ c 25 (f := .glo "_law_items") rfl)
  g__law_frozen := He.glo_ok X G (fact_ c 26 (f := .glo "_law_frozen") rfl)
  g__law_lines := He.glo_ok X G (fact_ c 27 (f := .glo "_law_lines") rfl)
  g_law := He.glo_ok X G (fact_ c 28 (f := .glo "law") rfl)
  g_PARTS := He.glo_ok X G (fact_ c 29 (f := .glo "PARTS") rfl)
  g_GREATEST := He.glo_ok X G (fact_ c 30 (f := .glo "GREATEST") rfl)
  g_ORDERS := He.glo_ok X G (fact_ c 31 (f := .glo "ORDERS") rfl)
  g_MULTIPLES := He.glo_ok X G (fact_ c 32 (f := .glo "MULTIPLES") rfl)
  g_FORMS := He.glo_ok X G (fact_ c 33 (f := .glo "FORMS") rfl)
  g_ShapeCheck := He.glo_ok X G (fact_ c 34 (f := .glo "ShapeCheck") rfl)
  g_Shape := He.glo_ok X G (fact_ c 35 (f := .glo "Shape") rfl)
  g_ShapeReader := He.glo_ok X G (fact_ c 36 (f := .glo "ShapeReader") rfl)
  f_len := He.free_ok X G (fact_ c 37 (f := .free "len") rfl)
  f_all := He.free_ok X G (fact_ c 38 (f := .free "all") rfl)
  f_list := He.free_ok X G (fact_ c 39 (f := .free "list") rfl)
  f_isinstance := He.free_ok X G (fact_ c 40 (f := .free "isinstance") rfl)
  f_int := He.free_ok X G (fact_ c 41 (f := .free "int") rfl)
  f_sum := He.free_ok X G (fact_ c 42 (f := .free "sum") rfl)
  f_min := He.free_ok X G (fact_ c 43 (f := .free "min") rfl)
  f_max := He.free_ok X G (fact_ c 44 (f := .free "max") rfl)
  f_tuple := He.free_ok X G (fact_ c 45 (f := .free "tuple") rfl)
  f_range := He.free_ok X G (fact_ c 46 (f := .free "range") rfl)
  f_abs := He.free_ok X G (fact_ c 47 (f := .free "abs") rfl)
  f_str := He.free_ok X G (fact_ c 48 (f := .free "str") rfl)
  f_enumerate := He.free_ok X G (fact_ c 49 (f := .free "enumerate") rfl)
  s_NAME_CHARS := He.str_ok X G (fact_ c 50 (f := .str "NAME_CHARS" "abcdefghijklmnopqrstuvwxyz0123456789") rfl)
  s_DIGITS := He.str_ok X G (fact_ c 51 (f := .str "DIGITS" "0123456789") rfl)
  i_MOST_NAME_CHARS := He.int_ok X G (fact_ c 52 (f := .int "MOST_NAME_CHARS" 12) rfl)
  i_MOST_ITEMS := He.int_ok X G (fact_ c 53 (f := .int "MOST_ITEMS" 12) rfl)
  i_MOST_NAMES := He.int_ok X G (fact_ c 54 (f := .int "MOST_NAMES" 30) rfl)
  i_MOST_DEPTH := He.int_ok X G (fact_ c 55 (f := .int "MOST_DEPTH" 3) rfl)
  i_MOST_LENGTH := He.int_ok X G (fact_ c 56 (f := .int "MOST_LENGTH" 64) rfl)
  i_MOST_COUNT := He.int_ok X G (fact_ c 57 (f := .int "MOST_COUNT" 16) rfl)
  i_MOST_CHOICES := He.int_ok X G (fact_ c 58 (f := .int "MOST_CHOICES" 4) rfl)
  i_MOST_CASES := He.int_ok X G (fact_ c 59 (f := .int "MOST_CASES" 8) rfl)
  i_MOST_MODULUS := He.int_ok X G (fact_ c 60 (f := .int "MOST_MODULUS" 16) rfl)
  i_MOST_DIGITS := He.int_ok X G (fact_ c 61 (f := .int "MOST_DIGITS" 9) rfl)
  c_ShapeCheck := He.cls_ok (fact_ c 62 (f := .cls "ShapeCheck") rfl)
  c_Shape := He.cls_ok (fact_ c 63 (f := .cls "Shape") rfl)
  c_ShapeReader := He.cls_ok (fact_ c 64 (f := .cls "ShapeReader") rfl)
  k_ShapeCheck := He.mkr_ok (fact_ c 65 (f := .mkr "ShapeCheck") rfl)
  k_Shape := He.mkr_ok (fact_ c 66 (f := .mkr "Shape") rfl)
  k_ShapeReader := He.mkr_ok (fact_ c 67 (f := .mkr "ShapeReader") rfl)
  n_ShapeCheck_names := He.noat_ok (fact_ c 68 (f := .noat "ShapeCheck" "names") rfl)
  n_ShapeCheck_numbers := He.noat_ok (fact_ c 69 (f := .noat "ShapeCheck" "numbers") rfl)
  n_ShapeCheck_checks := He.noat_ok (fact_ c 70 (f := .noat "ShapeCheck" "checks") rfl)
  n_Shape_parts := He.noat_ok (fact_ c 71 (f := .noat "Shape" "parts") rfl)
  n_Shape_names := He.noat_ok (fact_ c 72 (f := .noat "Shape" "names") rfl)
  n_Shape_bounds := He.noat_ok (fact_ c 73 (f := .noat "Shape" "bounds") rfl)
  n_ShapeReader_lines := He.noat_ok (fact_ c 74 (f := .noat "ShapeReader" "lines") rfl)
  n_ShapeReader_at := He.noat_ok (fact_ c 75 (f := .noat "ShapeReader" "at") rfl)
  m_ShapeCheck_require := He.meth_ok (fact_ c 76 (f := .meth "ShapeCheck" "require") rfl)
  m_ShapeCheck_check_items := He.meth_ok (fact_ c 77 (f := .meth "ShapeCheck" "check_items") rfl)
  m_ShapeCheck_check_plain := He.meth_ok (fact_ c 78 (f := .meth "ShapeCheck" "check_plain") rfl)
  m_ShapeCheck_check_uses := He.meth_ok (fact_ c 79 (f := .meth "ShapeCheck" "check_uses") rfl)
  m_ShapeCheck_check_lengths := He.meth_ok (fact_ c 80 (f := .meth "ShapeCheck" "check_lengths") rfl)
  m_ShapeReader_next_word := He.meth_ok (fact_ c 81 (f := .meth "ShapeReader" "next_word") rfl)
  m_ShapeReader_take := He.meth_ok (fact_ c 82 (f := .meth "ShapeReader" "take") rfl)
  m_ShapeReader_take_items := He.meth_ok (fact_ c 83 (f := .meth "ShapeReader" "take_items") rfl)
  m_ShapeReader_take_item := He.meth_ok (fact_ c 84 (f := .meth "ShapeReader" "take_item") rfl)
  m_ShapeReader_take_blocks := He.meth_ok (fact_ c 85 (f := .meth "ShapeReader" "take_blocks") rfl)
  dP := says_t c 0 rfl
  dF := says_t c 1 rfl
  pIn := tab_ok (g := fun i => .int i) (He.ba (He.ba (He.ba (He.ba (He.ba (He.ba (He.ba (says_m c)).2).2).2).2).2).2).1 rfl
  fIn := tab_ok (g := fun x => .str x) (He.ba (He.ba (He.ba (He.ba (He.ba (He.ba (He.ba (says_m c)).2).2).2).2).2).2).2 rfl
  pOut := fun z hz => He.eqO_ok (List.all_eq_true.mp (He.ba (He.ba (He.ba (He.ba (says_m c)).2).2).2).1 z hz)
  dG := idicB_ok (He.ba (He.ba (He.ba (says_m c)).2).2).1
  tO := He.tupB_ok (vs := [.str "big", .str "little"]) (He.ba (He.ba (He.ba (He.ba (He.ba (says_m c)).2).2).2).2).1
  tM := He.tupB_ok (vs := [.int 1, .int 2, .int 4, .int 8, .int 16]) (He.ba (He.ba (He.ba (He.ba (He.ba (He.ba (says_m c)).2).2).2).2).2).1
theorem prop1_of {w : World} {K : PySem.W.Frag} (c : SaysK w K) : PropOf K (He.ga K "Shape") "least_length" (He.ma K (He.ga K "Shape") "least_length") (pget K "Shape" "least_length") := propB_ok (He.ba (says_m c)).1
theorem prop2_of {w : World} {K : PySem.W.Frag} (c : SaysK w K) : PropOf K (He.ga K "Shape") "greatest_length" (He.ma K (He.ga K "Shape") "greatest_length") (pget K "Shape" "greatest_length") := propB_ok (He.ba (He.ba (says_m c)).2).1
theorem def_of {w : World} {K : PySem.W.Frag} (c : SaysK w K) (i : Nat) {d : He5.DefA} {st : Stmt} (h : fn[i]? = some d) (e : d = ⟨d.at_, d.name, d.qual, defArgs st, defBody st, defScope st, [], []⟩) : ∃ fd, Fun K d.name d.qual st (d.at_ K) fd := by
  obtain ⟨fd, F⟩ := (says_a c).def_ i h
  rw [e] at F
  exact ⟨fd, He5.fun_of F⟩
end K6
set_option Elab.async false
set_option linter.all false
set_option maxRecDepth 100000
set_option maxHeartbeats 4000000
namespace K6
open PySem PySem.Spec PyProof.Rows L2
theorem def_q {w : World} {K : PySem.W.Frag} (c : SaysK w K) (i : Nat) {d : He5.DefA} {st : Stmt} {x q : Str} (h : fn[i]? = some d) (e : d = ⟨d.at_, d.name, d.qual, defArgs st, defBody st, defScope st, [], []⟩) (hx : d.name = x) (hq : d.qual = q) : ∃ fd, Fun K x q st (d.at_ K) fd := by
  subst hx hq
  exact def_of c i h e
theorem facts {P : Program} {w : World} {K : PySem.W.Frag} {h : Heap} {mg : Str → Option Value} {f : Addr} (X : K.In h) (G : h.Ns mainGlobals mg) (hfa : mg ("law" : Str) = some (.ref f)) (c : SaysK w K) :
    ∃ fd : FuncData, (∀ (s : Shared) (v : Value), BindsTo s fd ⟨[v], []⟩ [("_law_script", v)]) ∧ ∀ base : Heap, K.In base → base.Ns mainGlobals mg → FnOk P w K mg base CX0 20 f fd ["_law_script"] (spLaw K) := by
  have T : Tx w K mg := tx_of X G c
  obtain ⟨fd0, D0⟩ := def_q c 0 (d := gD "is_name" 21) (st := s_is_name) (x := "is_name") (q := "is_name") rfl rfl rfl rfl
  obtain ⟨fd1, D1⟩ := def_q c 1 (d := gD "is_byte" 22) (st := s_is_byte) (x := "is_byte") (q := "is_byte") rfl rfl rfl rfl
  obtain ⟨fd2, D2⟩ := def_q c 2 (d := gD "blocks_of" 23) (st := s_blocks_of) (x := "blocks_of") (q := "blocks_of") rfl rfl rfl rfl
  obtain ⟨fd3, D3⟩ := def_q c 3 (d := gD "copied" 24) (st := s_copied) (x := "copied") (q := "copied") rfl rfl rfl rfl
  obtain ⟨fd4, D4⟩ := def_q c 4 (d := gD "copied_items" 25) (st := s_copied_items) (x := "copied_items") (q := "copied_items") rfl rfl rfl rfl
  obtain ⟨fd5, D5⟩ := def_q c 5 (d := gD "bounds" 26) (st := s_bounds) (x := "bounds") (q := "bounds") rfl rfl rfl rfl
  obtain ⟨fd6, D6⟩ := def_q c 6 (d := gD "least_of" 27) (st := s_least_of) (x := "least_of") (q := "least_of") rfl rfl rfl rfl
  obtain ⟨fd7, D7⟩ := def_q c 7 (d := gD "least_of_items" 28) (st := s_least_of_items) (x := "least_of_items") (q := "least_of_items") rfl rfl rfl rfl
  obtain ⟨fd8, D8⟩ := def_q c 8 (d := gD "greatest_of" 29) (st := s_greatest_of) (x := "greatest_of") (q := "greatest_of") rfl rfl rfl rfl
  obtain ⟨fd9, D9⟩ := def_q c 9 (d := gD "greatest_of_items" 30) (st := s_greatest_of_items) (x := "greatest_of_items") (q := "greatest_of_items") rfl rfl rfl rfl
  obtain ⟨fd10, D10⟩ := def_q c 10 (d := mD "ShapeCheck" "__init__" 31 0) (st := s_ShapeCheck_init) (x := "__init__") (q := "ShapeCheck.__init__") rfl rfl rfl (by decide +kernel)
  obtain ⟨fd11, D11⟩ := def_q c 11 (d := mD "ShapeCheck" "require" 31 1) (st := s_ShapeCheck_require) (x := "require") (q := "ShapeCheck.require") rfl rfl rfl (by decide +kernel)
  obtain ⟨fd12, D12⟩ := def_q c 12 (d := mD "ShapeCheck" "check_items" 31 2) (st := s_ShapeCheck_check_items) (x := "check_items") (q := "ShapeCheck.check_items") rfl rfl rfl (by decide +kernel)
  obtain ⟨fd13, D13⟩ := def_q c 13 (d := mD "ShapeCheck" "check_plain" 31 3) (st := s_ShapeCheck_check_plain) (x := "check_plain") (q := "ShapeCheck.check_plain") rfl rfl rfl (by decide +kernel)
  obtain ⟨fd14, D14⟩ := def_q c 14 (d := mD "ShapeCheck" "check_uses" 31 4) (st := s_ShapeCheck_check_uses) (x := "check_uses") (q := "ShapeCheck.check_uses") rfl rfl rfl (by decide +kernel)
  obtain ⟨fd15, D15⟩ := def_q c 15 (d := mD "ShapeCheck" "check_lengths" 31 5) (st := s_ShapeCheck_check_lengths) (x := "check_lengths") (q := "ShapeCheck.check_lengths") rfl rfl rfl (by decide +kernel)
  obtain ⟨fd16, D16⟩ := def_q c 16 (d := mD "Shape" "__init__" 32 0) (st := s_Shape_init) (x := "__init__") (q := "Shape.__init__") rfl rfl rfl (by decide +kernel)
  obtain ⟨fd17, D17⟩ := def_q c 17 (d := pD "Shape" "least_length" 32 1) (st := s_Shape_least_length) (x := "least_length") (q := "Shape.least_length") rfl rfl rfl (by decide +kernel)
  obtain ⟨fd18, D18⟩ := def_q c 18 (d := pD "Shape" "greatest_length" 32 2) (st := s_Shape_greatest_length) (x := "greatest_length") (q := "Shape.greatest_length") rfl rfl rfl (by decide +kernel)
  obtain ⟨fd19, D19⟩ := def_q c 19 (d := gD "format_items" 37) (st := s_format_items) (x := "format_items") (q := "format_items") rfl rfl rfl rfl
  obtain ⟨fd20, D20⟩ := def_q c 20 (d := gD "format_shape" 38) (st := s_format_shape) (x := "format_shape") (q := "format_shape") rfl rfl rfl rfl
  obtain ⟨fd21, D21⟩ := def_q c 21 (d := gD "is_integer" 39) (st := s_is_integer) (x := "is_integer") (q := "is_integer") rfl rfl rfl rfl
  obtain ⟨fd22, D22⟩ := def_q c 22 (d := gD "has_sort" 40) (st := s_has_sort) (x := "has_sort") (q := "has_sort") rfl rfl rfl rfl
  obtain ⟨fd23, D23⟩ := def_q c 23 (d := gD "parsed" 41) (st := s_parsed) (x := "parsed") (q := "parsed") rfl rfl rfl rfl
  obtain ⟨fd24, D24⟩ := def_q c 24 (d := mD "ShapeReader" "__init__" 42 0) (st := s_ShapeReader_init) (x := "__init__") (q := "ShapeReader.__init__") rfl rfl rfl (by decide +kernel)
  obtain ⟨fd25, D25⟩ := def_q c 25 (d := mD "ShapeReader" "next_word" 42 1) (st := s_ShapeReader_next_word) (x := "next_word") (q := "ShapeReader.next_word") rfl rfl rfl (by decide +kernel)
  obtain ⟨fd26, D26⟩ := def_q c 26 (d := mD "ShapeReader" "take" 42 2) (st := s_ShapeReader_take) (x := "take") (q := "ShapeReader.take") rfl rfl rfl (by decide +kernel)
  obtain ⟨fd27, D27⟩ := def_q c 27 (d := mD "ShapeReader" "take_items" 42 3) (st := s_ShapeReader_take_items) (x := "take_items") (q := "ShapeReader.take_items") rfl rfl rfl (by decide +kernel)
  obtain ⟨fd28, D28⟩ := def_q c 28 (d := mD "ShapeReader" "take_item" 42 4) (st := s_ShapeReader_take_item) (x := "take_item") (q := "ShapeReader.take_item") rfl rfl rfl (by decide +kernel)
  obtain ⟨fd29, D29⟩ := def_q c 29 (d := mD "ShapeReader" "take_blocks" 42 5) (st := s_ShapeReader_take_blocks) (x := "take_blocks") (q := "ShapeReader.take_blocks") rfl rfl rfl (by decide +kernel)
  obtain ⟨fd30, D30⟩ := def_q c 30 (d := gD "parse_shape" 43) (st := s_parse_shape) (x := "parse_shape") (q := "parse_shape") rfl rfl rfl rfl
  obtain ⟨fd31, D31⟩ := def_q c 31 (d := gD "_law_row" 45) (st := s__law_row) (x := "_law_row") (q := "_law_row") rfl rfl rfl rfl
  obtain ⟨fd32, D32⟩ := def_q c 32 (d := gD "_law_numbers" 46) (st := s__law_numbers) (x := "_law_numbers") (q := "_law_numbers") rfl rfl rfl rfl
  obtain ⟨fd33, D33⟩ := def_q c 33 (d := gD "_law_next" 47) (st := s__law_next) (x := "_law_next") (q := "_law_next") rfl rfl rfl rfl
  obtain ⟨fd34, D34⟩ := def_q c 34 (d := gD "_law_begin" 48) (st := s__law_begin) (x := "_law_begin") (q := "_law_begin") rfl rfl rfl rfl
  obtain ⟨fd35, D35⟩ := def_q c 35 (d := gD "_law_number" 49) (st := s__law_number) (x := "_law_number") (q := "_law_number") rfl rfl rfl rfl
  obtain ⟨fd36, D36⟩ := def_q c 36 (d := gD "_law_use" 50) (st := s__law_use) (x := "_law_use") (q := "_law_use") rfl rfl rfl rfl
  obtain ⟨fd37, D37⟩ := def_q c 37 (d := gD "_law_block" 51) (st := s__law_block) (x := "_law_block") (q := "_law_block") rfl rfl rfl rfl
  obtain ⟨fd38, D38⟩ := def_q c 38 (d := gD "_law_nested" 52) (st := s__law_nested) (x := "_law_nested") (q := "_law_nested") rfl rfl rfl rfl
  obtain ⟨fd39, D39⟩ := def_q c 39 (d := gD "_law_item" 53) (st := s__law_item) (x := "_law_item") (q := "_law_item") rfl rfl rfl rfl
  obtain ⟨fd40, D40⟩ := def_q c 40 (d := gD "_law_items" 54) (st := s__law_items) (x := "_law_items") (q := "_law_items") rfl rfl rfl rfl
  obtain ⟨fd41, D41⟩ := def_q c 41 (d := gD "_law_frozen" 56) (st := s__law_frozen) (x := "_law_frozen") (q := "_law_frozen") rfl rfl rfl rfl
  obtain ⟨fd42, D42⟩ := def_q c 42 (d := gD "_law_lines" 58) (st := s__law_lines) (x := "_law_lines") (q := "_law_lines") rfl rfl rfl rfl
  obtain ⟨fd, FL⟩ := (says_a c).def_ 43 (d := gD "law" 59) rfl
  have e := hfa.symm.trans T.g_law
  cases e
  have DL : Fun K "law" "law" s_law (He.ga K "law") fd := He5.fun_of FL
  have b := FunD.bindsA (ps := ["_law_script"]) FL (fun kV doc pm an cdv ct us hl => b_law kV doc pm an cdv ct us hl)
  refine ⟨fd, fun s v => b s [v] rfl, fun base _ _ => ?_⟩
  have F_is_name : Fc P w K mg base 1 "is_name" spIsName := fc_of T.g_is_name D0.kp (ok_is_name D0 T)
  have F_is_byte : Fc P w K mg base 1 "is_byte" spIsByte := fc_of T.g_is_byte D1.kp (ok_is_byte D1 T)
  have F_blocks_of : Fc P w K mg base 1 "blocks_of" spBlocks := fc_of T.g_blocks_of D2.kp (ok_blocks_of D2 T)
  have F_bounds : Fc P w K mg base 1 "bounds" spBounds := fc_of T.g_bounds D5.kp (ok_bounds D5 T)
  have F_copied : ∀ d, Fc P w K mg base (2 * d) "copied" (spCopied d) ∧ Fc P w K mg base (2 * d + 1) "copied_items" (spCopiedItems d) := copied_all D3 T.g_copied D4 T.g_copied_items T
  have F_least : ∀ d, Fc P w K mg base (2 * d + 1) "least_of" (spLeast d) ∧ Fc P w K mg base (2 * d + 2) "least_of_items" (spLeastItems d) := least_all D6 T.g_least_of D7 T.g_least_of_items F_bounds F_blocks_of T
  have F_great : ∀ d, Fc P w K mg base (2 * d + 1) "greatest_of" (spGreat d) ∧ Fc P w K mg base (2 * d + 2) "greatest_of_items" (spGreatItems d) := greatest_all D8 T.g_greatest_of D9 T.g_greatest_of_items F_bounds F_blocks_of T
  have F_require : Mc P w K mg base 1 (CC K) "require" spRequire := ⟨_, T.m_ShapeCheck_require, ok_require D11 T⟩
  have F_check_plain : Mc P w K mg base 2 (CC K) "check_plain" (spPlain K) := ⟨_, T.m_ShapeCheck_check_plain, ok_check_plain D13 T F_require F_is_byte⟩
  have F_check_uses : Mc P w K mg base 2 (CC K) "check_uses" (spUses K) := ⟨_, T.m_ShapeCheck_check_uses, ok_check_uses D14 T F_require F_bounds⟩
  have F_check_items : ∀ d, Mc P w K mg base (2 * d + 2) (CC K) "check_items" (spItems K d) := items_all D12 T.m_ShapeCheck_check_items D15 T.m_ShapeCheck_check_lengths T F_require F_is_name F_blocks_of F_check_plain F_check_uses fun d => (F_least d).2
  have F_ShapeCheck_init : FnR P w K mg base CX0 1 (He.ma K (He.ga K "ShapeCheck") "__init__") (spCkInit K) := ok_ck_init D10 T
  have F_Shape_init : FnR P w K mg base CX0 11 (He.ma K (He.ga K "Shape") "__init__") (spShape K 4) := ok_shape_init D16 T F_require F_ShapeCheck_init (F_check_items 4) ((F_copied 4).2.mono (by decide))
  have F_least_length := ok_least_length (P := P) (base := base) (d := 4) (k := 10) D17 (prop1_of c) T ((F_least 4).2)
  have F_greatest_length := ok_greatest_length (P := P) (base := base) (d := 4) (k := 10) D18 (prop2_of c) T ((F_great 4).2)
  have F_format_items : ∀ d, Fc P w K mg base (d + 1) "format_items" (spFmt d) := format_all D19 T.g_format_items T
  have F_format_shape : Fc P w K mg base 6 "format_shape" (spFmtShape K 4) := fc_of T.g_format_shape D20.kp (ok_format_shape D20 T (F_format_items 4))
  have F_is_integer : Fc P w K mg base 1 "is_integer" spIsInteger := fc_of T.g_is_integer D21.kp (ok_is_integer D21 T)
  have F_has_sort : Fc P w K mg base 2 "has_sort" spHasSort := fc_of T.g_has_sort D22.kp (ok_has_sort D22 T F_is_integer F_is_name)
  have F_parsed : Fc P w K mg base 2 "parsed" spParsed := fc_of T.g_parsed D23.kp (ok_parsed D23 T F_is_integer)
  have F_ShapeReader_init : FnR P w K mg base CX0 1 (He.ma K (He.ga K "ShapeReader") "__init__") (spReader K) := ok_reader_init D24 T
  have F_next_word : Mc P w K mg base 1 (CR K) "next_word" (spNext K) := ⟨_, T.m_ShapeReader_next_word, ok_next_word D25 T⟩
  have F_take : Mc P w K mg base 3 (CR K) "take" (spTake K) := ⟨_, T.m_ShapeReader_take, ok_take D26 T F_next_word F_has_sort F_parsed⟩
  have F_take_items : ∀ d, Mc P w K mg base (3 * d + 2) (CR K) "take_items" (spTkItems K d) ∧ Mc P w K mg base (3 * d + 3) (CR K) "take_blocks" (spTkBlocks K d) := read_all D27 T.m_ShapeReader_take_items D28 T.m_ShapeReader_take_item D29 T.m_ShapeReader_take_blocks T F_next_word F_take
  have F_parse_shape : Fc P w K mg base 15 "parse_shape" (spParse K) := fc_of T.g_parse_shape D30.kp (ok_parse_shape D30 T F_ShapeReader_init (F_take_items 4).1 F_Shape_init)
  have F__law_row : Fc P w K mg base 1 "_law_row" spRow := fc_of T.g__law_row D31.kp (ok_law_row D31 T)
  have F__law_numbers : Fc P w K mg base 2 "_law_numbers" (spNums K) := fc_of T.g__law_numbers D32.kp (ok_law_numbers D32 T F__law_row)
  have F__law_next : Fc P w K mg base 1 "_law_next" spNextN := fc_of T.g__law_next D33.kp (ok_law_next D33 T)
  have F__law_begin : Fc P w K mg base 1 "_law_begin" spBegin := fc_of T.g__law_begin D34.kp (ok_law_begin D34 T)
  have F__law_number : Fc P w K mg base 2 "_law_number" spNumber := fc_of T.g__law_number D35.kp (ok_law_number D35 T F__law_next)
  have F__law_use : Fc P w K mg base 2 "_law_use" spUse := fc_of T.g__law_use D36.kp (ok_law_use D36 T F__law_next)
  have F__law_items : ∀ d, Fc P w K mg base (4 * d + 2) "_law_items" (spItemsG d) ∧ Fc P w K mg base (4 * d + 3) "_law_block" (spBlockG d) := gen_all D40 T.g__law_items D39 T.g__law_item D38 T.g__law_nested D37 T.g__law_block T F__law_next F__law_number F__law_use
  have F__law_frozen : ∀ d, Fc P w K mg base (d + 1) "_law_frozen" (spFrozen d) := frozen_all D41 T.g__law_frozen T
  have F__law_lines : ∀ d, Fc P w K mg base (d + 1) "_law_lines" (spFmt d) := lines_all D42 T.g__law_lines T
  exact ok_law DL T F__law_numbers F__law_begin (F__law_items 4).1 (F__law_lines 4) F_parse_shape F_Shape_init (F__law_frozen 4) F_least_length F_greatest_length F_format_shape
end K6
set_option Elab.async false
set_option linter.all false
set_option maxRecDepth 100000
set_option maxHeartbeats 0
open PySem PySem.W PySem.Calls PyProof.Rows
theorem PySem.Challenge.cw_byteshape_k06_whole_text_and_back_holds : PySem.Challenge.rw_byteshape_k06_whole_text_and_back.Holds := by
  w_on; o_law
  refine HandSHeadRun.head_any (r := K6.R) (q := view K6.R.prog [59]) (H := K6.hk) (ob := K6.ob) (M := 6000) (loose := K6.loose) (d := HandSHeadRun.topDef K6.R.prog 59) (kwd := []) K6.ob_eq
    (by kernel_rfl) (fun s => by kernel_rfl) K6.run (by kernel_rfl) (by kernel_rfl) (by kernel_rfl) (by rfl) (by first | assumption | decide +kernel) (by decide +kernel) ⟨rfl, rfl, rfl, rfl, rfl, by decide +kernel⟩ ?hw ?hc
  case hw => w_witness2
  case hc =>
    refine L2.walk_ofE (l := PySem.Challenge.rw_byteshape_k06_whole_text_and_back) (n := 63) (k := 20) (x := "_law_script") (CX := L2.CX0) rfl (by decide) (by kernel_rfl) ⟨rfl, by decide, by decide⟩ ?F (fun _ _ _ _ z => z)
    intro w mg fa h Y G hmg0
    obtain ⟨K, KX, c⟩ := Y
    have hmg : mg ("law" : PySem.Str) = some (.ref fa) := by
      have e : (HandSHeadRun.topDef K6.R.prog 59).name = ("law" : PySem.Str) := by kernel_rfl
      rw [← e]
      exact hmg0
    obtain ⟨fd, hb, hF⟩ := K6.facts (P := (PySem.Challenge.rw_byteshape_k06_whole_text_and_back).prog) (w := w) KX G hmg c
    exact ⟨K, fd, K6.spLaw K, KX, hb, fun H a ns hl _ hS => ⟨a, ns, rfl, hl, hS, fun _ => rfl⟩, hF⟩
