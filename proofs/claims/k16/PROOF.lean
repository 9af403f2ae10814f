import PyProof.Rows.All
import Wide.All
import OpenK.AllK
import Wide.FinOn
import PySem.Challenge.RW_endorders_k16_whole_texts_read_back
import HandS.ForMost
import HandS.ForExc
import HandS.Defaults
import HandS.HeadHook1
import HandS.HeadHook2
import KE.KStateDown
import Lean
import HandS.Property
import HandS.Lambda
import HandS.EndTab
import HandS.Head0
import HandS.Head1
import HandS.Head2
import HandS.HeadEnd
import HandS.HeadHook3
import HandS.HeadHook4
import HandS.HeadWalk
import KE.KStar
import KE.GoesMore
import KE.GoesEnum
import HandS.Walk
import HandS.Small
import KE.KLam
import KE.SortKeyHeap
import HandS.Nested
import HandS.SortKw
import HandS.Codes
import HandS.Conv
import HandS.Style
import HandS.IsInst
import HandS.TupAny
import HandS.Deep
import HandS.Exc
import HandS.ExcOwn
import HandS.Dict
import HandS.TryOnly
import PyProof.ReprRoads
import HandS.AnyAll
import HandS.NestedK
set_option Elab.async false
set_option linter.all false
set_option maxRecDepth 100000
set_option maxHeartbeats 200000
namespace Eo
open PySem PySem.Spec PyProof.Rows L2
/-! ### the text by places -/
def top (i : Nat) : Stmt := PySem.Challenge.pw_endorders_k16_whole_texts_read_back.main.body.getD i (.Pass ⟨0, 0, 0, 0⟩)
abbrev sIsInteger : Stmt := top 11
abbrev sIsBetween : Stmt := top 12
abbrev sIsLetter : Stmt := top 13
abbrev sCheckText : Stmt := top 14
abbrev sCheckKind : Stmt := top 18
abbrev sCheckPlaces : Stmt := top 19
abbrev sRanksOf : Stmt := top 20
abbrev sNextRank : Stmt := top 21
abbrev sRisesOf : Stmt := top 22
abbrev sOrder : Stmt := top 23
abbrev sEndOf : Stmt := top 24
abbrev sSortedPlaces : Stmt := top 25
abbrev sOrderOf : Stmt := top 26
abbrev sColumnOf : Stmt := top 29
abbrev sCheckColumn : Stmt := top 30
abbrev sStepsOf : Stmt := top 31
abbrev sRingFrom : Stmt := top 32
abbrev sIsMarked : Stmt := top 33
abbrev sIsWhole : Stmt := top 34
abbrev sIsColumn : Stmt := top 35
abbrev sTextOf : Stmt := top 36
abbrev sShortRing : Stmt := top 37
abbrev sCupOf : Stmt := top 39
abbrev sSip : Stmt := top 40
abbrev sPick : Stmt := top 41
abbrev sDrawnLine : Stmt := top 42
abbrev sColumnTold : Stmt := top 43
abbrev sRight : Stmt := top 44
abbrev sLaw : Stmt := top 45
/-- the i-th statement of the class's body -/
def inCls (s : Stmt) (j : Nat) : Stmt := inClass s j
abbrev sInit : Stmt := inCls sOrder 0
abbrev sPlaces : Stmt := inCls sOrder 1
abbrev FnP (K : PySem.W.Frag) (x qual : Str) (st : Stmt) (f : Addr) (fd : FuncData) : Prop := FunD K x qual (defArgs st) (defBody st) (defScope st) [] [] f fd
end Eo
set_option maxHeartbeats 0
namespace Eo
open PySem PySem.Spec PyProof.Rows L2
/-! ### the head: facts by names, the run -/
def dd (x : Str) (st : Stmt) : He.DefD := ⟨(x, none), x, x, defArgs st, defBody st, defScope st, [], []⟩
def dInit : He.DefD := ⟨("Order", some "__init__"), "__init__", "Order.__init__", defArgs sInit, defBody sInit, defScope sInit, [], []⟩
def fnL : List He.DefD := [dd "is_integer" sIsInteger, dd "is_between" sIsBetween, dd "is_letter" sIsLetter, dd "check_text" sCheckText, dd "check_kind" sCheckKind, dd "check_places" sCheckPlaces,
  dd "ranks_of" sRanksOf, dd "next_rank" sNextRank, dd "rises_of" sRisesOf, dInit, dd "end_of" sEndOf, dd "sorted_places" sSortedPlaces, dd "order_of" sOrderOf, dd "column_of" sColumnOf, dd "check_column" sCheckColumn,
  dd "steps_of" sStepsOf, dd "ring_from" sRingFrom, dd "is_marked" sIsMarked, dd "is_whole" sIsWhole, dd "is_column" sIsColumn, dd "text_of" sTextOf, dd "short_ring" sShortRing,
  dd "_law_cup_of" sCupOf, dd "_law_sip" sSip, dd "_law_pick" sPick, dd "_law_drawn_line" sDrawnLine, dd "_law_column_told" sColumnTold, dd "_law_right" sRight, dd "law" sLaw]
def gloL : List Str := ["is_integer", "is_between", "is_letter", "check_text", "check_kind", "check_places", "ranks_of", "next_rank", "rises_of", "end_of", "sorted_places", "order_of", "column_of", "check_column",
  "steps_of", "ring_from", "is_marked", "is_whole", "is_column", "text_of", "short_ring", "_law_cup_of", "_law_sip", "_law_pick", "_law_drawn_line", "_law_column_told", "_law_right", "law", "Order", "Repeated", "KINDS"]
def freeL : List Str := ["isinstance", "int", "bool", "tuple", "str", "len", "enumerate", "range", "sorted", "list", "all", "abs", "divmod", "repr", "max", "min"]
def faL : List He.Fa := gloL.map He.Fa.glo ++ (freeL.map He.Fa.free ++ [.int "MOST_PLACES" 60, .int "MOST_LETTER" (10 ^ 18), .int "PAST" (10 ^ 18 + 1), .int "MARK" (-1), .cls "Order", .noat "Order" "row", .noat "Order" "style", .noat "Order" "standing", .noat "Order" "steep", .mkr "Order", .exm "Repeated" "Repeated" true, .keep "Repeated"])
/-- the property places of Order -/
def propA (K : PySem.W.Frag) : Addr := He.ma K (He.ga K "Order") "places"
def getA (K : PySem.W.Frag) : Addr := match PySem.W.recIn K (propA K) "property" with
  | some (.ref g :: _) => g
  | _ => 0
def arBase : List Value := [.type "ArithmeticError", .type "Exception", .type "BaseException", .type "object"]
def moreB (K : PySem.W.Frag) : Bool :=
  decide ((He.cT K ("sorted_places", none)).2 ≠ (He.cT K ("steps_of", none)).2) && (He.tupB K "KINDS" [.str "first", .str "last", .str "ring"] && (He.eqO (PySem.W.findIn K (.ref (He.ga K "Order")) "places") (some (some (.ref (propA K)))) && (He.eqO (PySem.W.specialIn K (.ref (propA K)) "__get__") (some (some (.builtin "property.__get__"))) &&
  (decide (PySem.W.takesIn K (.ref (propA K)) = some true) && ((match PySem.W.recIn K (propA K) "property" with
  | some (.ref _ :: _) => true
  | _ => false) && (PySem.W.excIn K (He.ga K "Repeated") arBase "ArithmeticError.__new__" && (decide (PySem.W.subIn K (.ref (He.ga K "Repeated")) (.type "BaseException") = some true) && (decide (PySem.W.typeIn K (.ref (He.ga K "Repeated")) = some (.type "type")) && (PySem.W.keepIn K (.ref (getA K)) && (match K.lookup (getA K) with
  | some ⟨_, _, .func fd, _⟩ => PySem.W.codeIn K fd.code "Order.places" && decide (fd.defaults = .none)
  | _ => false))))))))))
def tfL : List He.Defn := [("sorted_places", none), ("steps_of", none)]
abbrev FnW := He.FnW
def fnWat (K : PySem.W.Frag) (a : Addr) : FnW := match K.lookup a with
  | some ⟨_, _, .func fd, _⟩ => some (fd.name, fd.qualname, fd.params, fd.body, fd.scope, fd.globals, fd.closure, fd.builtins)
  | _ => none
def valP : FnW := some ("places", "Order.places", defArgs sPlaces, .stmts (defBody sPlaces), defScope sPlaces, mainGlobals, [], builtinsNs)
abbrev AlP : Type := He.AlX × FnW
def obsP (g : Addr → Option Obj) : AlP := (He.obsX 5 faL fnL [] tfL moreB g, fnWat (He.frT g (He.asD g 5)) (getA (He.frT g (He.asD g 5))))
def hookP : PySem.W.Hook where
  α := AlP
  obs := fun s => obsP s.heap.get?
  val := fun w => (He.valX fnL [] w, valP)
  says := fun w h => ∃ K : PySem.W.Frag, K.In h ∧ He.SaysX faL fnL [] tfL moreB w h K ∧ fnWat K (getA K) = valP
  of := fun _ _ e => ⟨_, He.frT_in, He.saysX_of (congrArg (fun z : AlP => z.1) e), congrArg (fun z : AlP => z.2) e⟩
  keeps := fun _ _ _ ⟨K, hK, c, d⟩ k => ⟨K, PySem.W.Frag.In.keeps hK k, ⟨c.t, c.more, c.hd, c.out, fun p hp => k _ _ (c.empty p hp)⟩, d⟩
abbrev TheRow : PySem.W.OpenRow := PySem.W.OpenLaw.row PySem.Challenge.rw_endorders_k16_whole_texts_read_back
def obT (s : PySem.W.SharedT) : AlP := obsP (HandSHeadRun.getT s)
theorem obT_eq (s : PySem.W.SharedT) : obT s = hookP.obs s.abs := by
  have e : HandSHeadRun.getT s = s.abs.heap.get? := funext (HandSHeadRun.getT_eq s)
  show obsP (HandSHeadRun.getT s) = obsP s.abs.heap.get?
  rw [e]
def looseA : List Str := ["WrongValue", "InvalidKind", "InvalidText", "InvalidPlaces", "InvalidColumn", "NoAnswer", "Repeated", "MOST_PLACES", "MOST_LETTER", "is_integer", "is_between", "is_letter", "check_text", "KINDS", "PAST", "check_kind", "check_places", "ranks_of", "next_rank", "rises_of", "Order"]
def looseB : List Str := ["end_of", "sorted_places", "order_of", "MARK", "column_of", "check_column", "steps_of", "ring_from", "is_marked", "is_whole", "is_column", "text_of", "short_ring", "_law_cup_of", "_law_sip", "_law_pick", "_law_drawn_line", "_law_column_told", "_law_right"]
def looseL : List Str := looseA ++ looseB
theorem run (w : World) : HandSHeadRun.RunEq TheRow (PySem.W.view TheRow.prog [45]) hookP obT 6000 looseL w := by
  intro os
  kernel_rfl
end Eo
set_option maxHeartbeats 2000000
namespace Eo
open PySem PySem.Spec PyProof.Rows L2
/-! ### [.., *xs, ..] -/
section
variable {X : Cx}
theorem starOf_list {pins : List (Addr × Obj)} {σ : L2.St} {H : Hp} {s : Shared} {a : Addr} {xs : List V} {Q : List Value → Shared → Prop} (I : Inv X pins σ H s) (h : SqL X.K H a xs)
    (k : ∀ its h', Vals xs its → Inv X pins σ H { s with heap := h' } → Q its { s with heap := h' }) : PySem.W.StarOf (model X.prog X.w) X.A X.xe (.ref a) Q s := by
  obtain ⟨its, rv, ⟨ob, n, ho, hc, hd, hdt⟩, hz⟩ := I.list h
  have hT : s.TypeIs (.ref a) "list" := ⟨ob, ho, hc⟩
  have hl := rv.length
  have z : wpAny (model X.prog X.w) X.A (collect (.ref a)) Q X.xe s := by
    refine wpAny_collect_seq a (.inl rfl) ho hc hdt (fun h' hk => ?_) (by rw [List.size_toArray]; omega)
    exact k its h' rv (I.kept (t' := s.toks) hk)
  unfold PySem.W.StarOf notIterableAtAll
  exact wpAny_bind (wpAny_specialOf hT PySem.F.slot_list_iter.lookup (wpAny_pure ⟨rfl, z⟩))
/-- *xs ahead of what follows, xs a list -/
def tStarL (K : PySem.W.Frag) (ta : TE) (tr : TA) : TA := fun σ H Q => ta σ H fun x H1 => ∃ a xs, x = .ref a ∧ SqL K H1 a xs ∧ tr σ H1 fun ys H2 => Q (xs ++ ys) H2
theorem pa_starL {e : Expr} {es : List Expr} {ta : TE} {tr : TA} {p : Pos} (ha : PE X e ta) (hr : PA X es tr) (he : starEach (.Starred e p :: es) X.env = (true, eval e X.env) :: starEach es X.env := by rfl) : PA X (.Starred e p :: es) (tStarL X.K ta tr) := by
  refine ⟨fun pos pins s σ H Q I h => ?_⟩
  refine PySem.W.items_star (thn (ha.run pins s σ H _ I h) fun v s1 ⟨x, H1, I1, r1, q1⟩ => ?_) he
  obtain ⟨a, xs, ex, hq, q⟩ := q1
  subst ex
  cases r1
  refine starOf_list I1 hq fun its h' rv I2 => ?_
  exact thn (hr.run pos pins _ σ H1 _ I2 q) fun us s3 ⟨ys, H3, I3, r3, q3⟩ => ⟨xs ++ ys, H3, I3, rv.append r3, q3⟩
/-! ### o.f as one of several targets -/
def gFld (K : PySem.W.Frag) (ta : TE) (f : Str) : TG := fun v σ H Q => ta σ H fun x H2 => ∃ a C dx fs, x = .ref a ∧ H2 a = some (.ins C dx fs) ∧ Cls K C ∧ NoAttr K C f ∧ fs.length < 1000 ∧ Q σ (upd H2 a (.ins C dx (putF f v fs)))
theorem pg_fld {o : Expr} {f : Str} {pos : Pos} {ta : TE} (ha : PE X o ta) : PG X (.Attribute o f pos) (gFld X.K ta f) := by
  refine ⟨fun pins s σ H v u Q I r h => ?_⟩
  show wpAny _ _ (do
    let ov ← holding [u] (eval o X.env)
    standAt pos.atName
    holding [u, ov] (setAttr ov f u)
    release [u, ov] []) _ _ _
  refine wpAny_bind (wpAny_holding (thn (ha.run pins s σ H _ I h) fun ov s1 ⟨x, H1, I1, rx, a, C, dx, fs, ex, ea, c, n, l, q⟩ => ?_))
  subst ex
  obtain rfl : ov = Value.ref a := rx
  refine wpAny_bind (wpAny_standAt (wpAny_bind (wpAny_holding (setattr_ok I1 ea c n l r fun s2 I2 => ?_))))
  exact wpAny_release ⟨σ, _, I2, q⟩
end
/-! ### f(k = v, ..), nothing by position -/
section
variable {X : Cx} {CX : CXT} {k : Nat} {f : Addr} {fd : FuncData} {ps ks : List Str} {sp : Sp} {E : XK} {x : Str} {p pos : Pos} {kws : List Keyword} {tk : TA} {g : List Value → List Value → List Value} {gV : List V → List V → List V}
def tCallW (m : Nat) (sp : Sp) (gV : List V → List V → List V) (E : XK) (tk : TA) : TE := fun σ H Q => tk σ H fun zs H2 => zs.length = m ∧ sp (gV [] zs) H2 Q E
theorem pe_callW (F : FnOk X.prog X.w X.K X.mg X.base CX k f fd ps sp) (hr : Room k X.A) (hg : Gl X x) (hm : X.mg x = some (.ref f)) (hk : PySem.W.keepIn X.K (.ref f) = true) (hb : KBn X.K fd ps 0 ks g gV) (hx : Passes CX X E)
    (hkw : PK X kws tk) (hall : (backToKw pos (keywordEach kws X.env)).all (·.1.isSome) = true := by rfl) (hks : (backToKw pos (keywordEach kws X.env)).filterMap (·.1) = ks := by rfl)
    (hdb : (x == ("__debug__" : Str)) = false := by decide) (hpl : ((backTo pos (starEach [] X.env)).any (·.1) || (backToKw pos (keywordEach kws X.env)).any (·.1.isNone)) = false := by rfl) :
    PE X (.Call (.Name x p) [] kws pos) (tCallW ks.length sp gV E tk) := by
  refine ⟨fun pins s σ H Q I h => ?_⟩
  refine wpAny_Call_Name_kw (ld_glob I hg hm ?_ hdb)
  refine PySem.W.callWith_KW0 (h₀ := X.base) I.ok.mod.kin hk hall ?_ hpl
  refine thn (hkw.run pos pins s σ H _ I h) fun ws s2 ⟨zs, H2, I2, rz, l, q⟩ => ⟨I2.kIn, ?_⟩
  rw [hks]
  have lw : ws.length = ks.length := by rw [← rz.length]; exact l
  refine wpAny_call (codeAny_mono (F.run X.A X.stack s2 H2 ⟨[], ks.zip ws⟩ (g [] ws) (gV [] zs) Q E hr I2.env0 (hb.to s2 [] ws I2.kIn rfl lw) (hb.rel .nil rz) q) fun r s' hq => ?_)
  cases r with
  | error e => exact hx pins σ H2 s2 e s' I2 hq
  | ok fl =>
    cases fl with
    | ret u => exact I2.after hq
    | next => exact False.elim hq
    | brk => exact False.elim hq
    | cont => exact False.elim hq
end
/-! ### enumerate of a tuple -/
theorem meets_enumT (t : Addr) (items : Array Value) :
    Meets (Builtin.«enumerate.__new__» ⟨[.type "enumerate", .ref t], []⟩) (fun _ R s => s.heap.IsTuple t items ∧
      R (.ok (.ret (.ref (s.heap.push { cls := .type "tuple_iterator", data := .fields #[.ref t, .int 0 0] }).objs.size)))
        { s with heap := (s.heap.push { cls := .type "tuple_iterator", data := .fields #[.ref t, .int 0 0] }).push { cls := .type "enumerate", data := .fields #[.none, .bool false, .ref s.heap.objs.size, rawInt 0, .none, .none] } }) :=
  .of_wp fun prog w A R s hw => by
    obtain ⟨hp, g, d, tk, os⟩ := s
    obtain ⟨hT, hw⟩ := hw
    have hsub := sub_enumerate
    have go : ∀ {A' : Around} {E : Value → Shared → Prop} {Q : Value → Shared → Prop}, Q (.ref hp.objs.size) ⟨hp.push { cls := .type "tuple_iterator", data := .fields #[.ref t, .int 0 0] }, g, d, tk, os⟩ → wpAny (model prog w) A' (pyIter (.ref t)) Q E ⟨hp, g, d, tk, os⟩ :=
      fun q => (begins_tuple t items).iter prog w _ _ ⟨hp, g, d, tk, os⟩ _ hT q
    wp_walk using go
    refine wpAny_stack_any fun st => wpAny_pure ?_
    split
    · rename_i c _ _ _ _ _
      cases (c == Value.type "enumerate") <;> (wp_walk using go; exact ⟨_, rfl, hw⟩)
    · wp_walk using go
      exact ⟨_, rfl, hw⟩
theorem call_enumT {prog : Program} {w : World} {A : Around} {E : Value → Shared → Prop} {s : Shared} {t : Addr} {items : Array Value} {Q : Value → Shared → Prop} (hT : s.heap.IsTuple t items)
    (h : ∀ h', IsEnum h' (s.heap.objs.size + 1) s.heap.objs.size 0 .none → h'.IsTupleIter s.heap.objs.size t 0 →
      (∀ b o, s.heap.get? b = some o → h'.get? b = some o) → Q (.ref (s.heap.objs.size + 1)) { s with heap := h' }) :
    wpAny (model prog w) A (call (.type "enumerate") [.ref t]) Q E s := by
  refine callType_new PySem.F.called_enumerate (by decide) (PySem.F.typeCall_enumerate_1 _) (PySem.F.newCall_enumerate_1 _) (fun obj => PySem.F.args_object_init_2 obj _) PySem.F.entry_enumerate_new
    (meets_enumT t items) ⟨hT, ?_⟩
  have hz : (s.heap.push { cls := .type "tuple_iterator", data := .fields #[.ref t, .int 0 0] }).objs.size = s.heap.objs.size + 1 := Heap.size_push ..
  show _ ∧ _
  rw [hz]
  have he : IsEnum ((s.heap.push { cls := .type "tuple_iterator", data := .fields #[.ref t, .int 0 0] }).push
      { cls := .type "enumerate", data := .fields #[.none, .bool false, .ref s.heap.objs.size, rawInt 0, .none, .none] }) (s.heap.objs.size + 1) s.heap.objs.size 0 .none := by
    have e := Heap.get?_push_size (s.heap.push { cls := .type "tuple_iterator", data := .fields #[.ref t, .int 0 0] })
      (o := { cls := .type "enumerate", data := .fields #[.none, .bool false, .ref s.heap.objs.size, rawInt 0, .none, .none] }) rfl
    rw [hz] at e
    exact e
  exact ⟨⟨_, he, rfl⟩, h _ he ⟨_, Heap.get?_push_of_some _ (Heap.get?_push_size _ rfl), rfl, rfl⟩ fun b o x => Heap.get?_push_of_some _ (Heap.get?_push_of_some _ x)⟩
/-- the tuple at a, its items in new pairs with their numbers -/
def IteT (K : PySem.W.Frag) (a : Addr) : It :=
  ⟨fun i H => ∃ (xs : List V) (x : V), SqT K H a xs ∧ xs[i]? = some x, fun i H v H' => ∃ T x, v = .ref T ∧ H T = none ∧ H' = upd H T (.tup [.int (i : Nat), x]) ∧ ∀ xs, SqT K H a xs → xs[i]? = some x, fun i H => ∃ xs : List V, SqT K H a xs ∧ xs.length = i⟩
theorem draws_at {prog : Program} {w : World} {A : Around} (hh : A.handled = none) (it t : Addr) (hne : t ≠ it) (items : Array Value) :
    Draws prog w A it [it, t] items.size (fun i v => items[i]? = some v) (fun i h => h.IsTupleIter it t i ∧ h.IsTuple t items) := .tuple hh it t hne items
theorem turn_enumT {P : Program} {w : World} {K : PySem.W.Frag} {elts : List Expr} {kk : Nat} {tpos : Pos} (a e it : Addr) :
    Turn P w K (.Tuple elts kk tpos) (IteT K a) [e, it] e (fun i h => (∃ old, IsEnum h e it ((i : Nat) : Int) old) ∧ h.IsTupleIter it a i ∧ e ≠ it) where
  mem := by simp
  obj := fun i h st b hb => by
    obtain ⟨⟨old, he⟩, ⟨o, ho, hc, hd⟩, _⟩ := st
    have hb' : b = e ∨ b = it := by simpa using hb
    rcases hb' with z | z
    · rw [z]; exact ⟨_, he, fun v q => nomatch q⟩
    · rw [z]; exact ⟨o, ho, fun v q => by rw [hd] at q; cases q⟩
  keep := fun i h h' st k => let ⟨⟨old, he⟩, hi, hne⟩ := st; ⟨⟨old, k e (by simp) _ he⟩, hi.at fun o q => k it (by simp) o q, hne⟩
  item := by
    intro X hP hw hK hc i pins s σ H E I hf st hg
    subst hP hw hK
    obtain ⟨⟨old, he⟩, hit, hne⟩ := st
    obtain ⟨xs, x, hq, hx⟩ := hg
    obtain ⟨its, rv, p, hz⟩ := I.tuple hq
    have p' : s.heap.IsTuple a its.toArray := p
    obtain ⟨u, hu, ru⟩ := rv.get hx
    have hel : e < s.heap.objs.size := Heap.lt_size he
    have hil : it < s.heap.objs.size := by obtain ⟨_, q, _⟩ := hit; exact Heap.lt_size q
    have ho1 : a ≠ it := fun z => by
      obtain ⟨o1, q1, c1, _⟩ := hit
      obtain ⟨o2, q2, c2, _⟩ := p'
      rw [z, q1] at q2
      cases q2
      rw [c1] at c2
      injection c2 with c3
      exact absurd c3 (by decide)
    have ho2 : e ≠ a := fun z => by
      obtain ⟨o2, q2, c2, _⟩ := p'
      have he2 : s.heap.get? e = some _ := he
      rw [z, q2] at he2
      cases he2
      injection c2 with c3
      exact absurd c3 (by decide)
    have hlt : i < its.toArray.size := by
      obtain ⟨q, _⟩ := List.getElem?_eq_some_iff.mp hu
      simpa using q
    refine wpAny_pyNext_enum_itemD (draws_at (A := X.A.in1) (I.ok.hd hc) it a ho1 its.toArray) he ⟨hit, p'⟩ hlt hne (by simp [hne, ho2]) fun y h' tk hy hout hst hT hsz hk => ?_
    have ey : y = u := by
      have q : its.toArray[i]? = some y := hy
      rw [List.getElem?_toArray, hu] at q
      exact (Option.some.inj q).symm
    subst ey
    refine ⟨_, rfl, wpAny_letOwnedTupleGo_enum (s := { s with heap := h', toks := tk + 1 }) hout fun h'' he' sb => ?_⟩
    have hT2 : h''.get? s.heap.objs.size = some { cls := .type "tuple", data := .seq #[.int i tk, y] } := (sb.2 _ (Nat.ne_of_gt hel)).trans hT
    have new : ObjOk X.prog X.w (upd H s.heap.objs.size (.tup [.int (i : Nat), x])) h'' s.heap.objs.size (.tup [.int (i : Nat), x]) :=
      ⟨by show 2 ≤ sizeLine; decide, [.int i tk, y], .cons ⟨_, rfl⟩ (.cons ru .nil), ⟨_, hT2, rfl, _, rfl⟩⟩
    have I1 : Inv X pins σ (upd H s.heap.objs.size (.tup [.int (i : Nat), x])) { s with heap := h'', toks := tk + 1 } :=
      I.turnedNew (ch := [e, it]) (fun b ob hb q => (sb.2 b (fun z => hb (by simp [z]))).trans (hk b ob (fun z => hb (by simp [z])) (fun z => hb (by simp [z])) q)) hf (Nat.le_refl _) new
    refine ⟨.ref s.heap.objs.size, _, I1, rfl, ⟨_, x, rfl, I.hok.fresh (Nat.le_refl _), rfl, fun ys hy2 => by rw [I.tuple_inj hy2 hq]; exact hx⟩, ⟨⟨y, ?_⟩, hst.1.at fun o q => (sb.2 it (Ne.symm hne)).trans q, hne⟩, fun b hb => ?_⟩
    · have e1 : ((i + 1 : Nat) : Int) = (i : Int) + 1 := by omega
      rw [e1]
      exact he'
    · have hb' : b < s.heap.objs.size := by
        have q : b = e ∨ b = it := by simpa using hb
        rcases q with z | z
        · rw [z]; exact hel
        · rw [z]; exact hil
      rw [upd_ne (Nat.ne_of_lt hb')]
      exact (hf b hb).1
  done := by
    intro X hP hw hK hc i pins s σ H E I hf st hg
    subst hP hw hK
    obtain ⟨⟨old, he⟩, hit, hne⟩ := st
    obtain ⟨xs, hq, hx⟩ := hg
    obtain ⟨its, rv, p, hz⟩ := I.tuple hq
    have p' : s.heap.IsTuple a its.toArray := p
    have ho1 : a ≠ it := fun z => by
      obtain ⟨o1, q1, c1, _⟩ := hit
      obtain ⟨o2, q2, c2, _⟩ := p'
      rw [z, q1] at q2
      cases q2
      rw [c1] at c2
      injection c2 with c3
      exact absurd c3 (by decide)
    obtain ⟨f0, f1, f2, f3, f4, f5⟩ := hf it (by simp)
    have hl : its.toArray.size = i := by rw [List.size_toArray, ← rv.length]; exact hx
    exact wpAny_pyNext_enum_endD (draws_at (A := X.A.in1) (I.ok.hd hc) it a ho1 its.toArray) he ⟨by rw [hl]; exact hit, p'⟩ fun h' eb => ⟨rfl, I.turned (t' := s.toks) (fun b o hb q => eb b o hb q) f0 f1 f3 f4 f5⟩
  self := fun A i s Q E st h => let ⟨⟨_, he⟩, _⟩ := st; wpAny_pyIter_enum he h
def iEnumT (K : PySem.W.Frag) (ta : TA) : TI := fun σ H R => ta σ H fun vs H1 => ∃ a xs, vs = [.ref a] ∧ SqT K H1 a xs ∧ R (IteT K a) H1
theorem pi_enumT {X : Cx} {e : Expr} {ta : TA} {p pos tpos : Pos} {elts : List Expr} {kk : Nat} (hg : Gl X "enumerate") (hm : X.mg "enumerate" = none) (ha : PA X [e] ta) (hs : starEach [e] X.env = [(false, eval e X.env)] := by rfl) :
    PI X (.Tuple elts kk tpos) (.Call (.Name "enumerate" p) [e] [] pos) (iEnumT X.K ta) := by
  refine ⟨fun pins s σ H R I h => ?_⟩
  refine Call_ (ld_blt I hg hm boot_enumerate (PyProof.Rows.callWith_type1 (thn (ha.run pos pins s σ H _ I h) fun us s1 ⟨vs, H1, I1, r1, q1⟩ => ?_) hs rfl))
  obtain ⟨a, xs, ex, hq, q⟩ := q1
  subst ex
  obtain rfl := Vals.ref1 r1
  obtain ⟨its, rv, p', hz⟩ := I1.tuple hq
  refine call_enumT (show s1.heap.IsTuple a its.toArray from p') fun h' he hit hk => wpAny_pyIter_enum he ?_
  refine ⟨s1.heap.objs.size + 1, [s1.heap.objs.size + 1, s1.heap.objs.size], _, _, H1, rfl, I1.kept (t' := s1.toks) hk, turn_enumT a (s1.heap.objs.size + 1) s1.heap.objs.size, ⟨⟨.none, he⟩, hit, Nat.succ_ne_self _⟩, fun b hb => ?_, q⟩
  have hb' : b = s1.heap.objs.size + 1 ∨ b = s1.heap.objs.size := by simpa using hb
  have hle : s1.heap.objs.size ≤ b := by
    rcases hb' with z | z
    · rw [z]; exact Nat.le_add_right _ _
    · rw [z]; exact Nat.le_refl _
  exact I1.fpOk hle (I1.hok.fresh hle)
theorem walk_enumT {K : PySem.W.Frag} {a : Addr} {xs : List V} : Walk (IteT K a) xs.length (fun H => SqT K H a xs) (YPair (fun i => some (.int (i : Nat))) (fun i => xs[i]?)) := by
  refine ⟨fun i _ hi q => ⟨xs, xs[i], q, by simp [hi]⟩, fun _ q => ⟨xs, q, rfl⟩, fun i H v H' _ q y => ?_⟩
  obtain ⟨T, x, h1, h2, h3, h4⟩ := y
  exact ⟨T, .int (i : Nat), x, h1, h2, h3, rfl, h4 xs q⟩
/-! ### X(), an own exception class without own __init__ -/
section
variable {X : Cx} {C : Addr} {bmB : List Value} {B newId initId : String}
theorem pmk_own0 {x : Str} {p pos : Pos} (F : ExcBaseFacts B newId initId bmB) (q : PySem.W.excIn X.K C bmB newId = true) (gC : X.mg x = some (.ref C)) (kC : PySem.W.keepIn X.K (.ref C) = true) (r : Raises X (.ref C)) (hg : Gl X x)
    (hdb : (x == ("__debug__" : Str)) = false := by decide) : PMk X (.Call (.Name x p) [] [] pos) (fun _ H Q => Q (.ref C) none H) := by
  intro pins s σ H Q I h
  refine wpAny_Call_Name_kw (ld_glob I hg gC ?_ hdb)
  refine PySem.W.callWith_K0 I.kIn kC ?_
  show wpAny _ _ (call (.ref C) []) _ _ _
  obtain ⟨bm, N, nm, qn, bs, hdct, sn, sub, ab, col, dd, k0, k1, k2, k3, k5, mN, hC, hN, hni, T⟩ := exc_obj I.kIn q
  refine wpAny_call_exc_subT F T hC hN hni (fun h' e hm => ?_) (Nat.zero_le _)
  exact mk_of I hm r h (I.hok.gone hm.new)
end
end Eo
set_option maxHeartbeats 2000000
namespace Eo
open PySem PySem.Spec PyProof.Rows L2 LamX NdefX
/-! ### a lambda of one parameter as a sort's key -/
/-- what the body gives in the lambda's frame: the key kd, all that stood is kept -/
def KeyBody (prog : Program) (w : World) (A : Around) (body : Expr) (env : Env) (kd : PyData) (s : Shared) : Prop :=
  wpAny (model prog w) A (eval body env) (fun v s' => ∃ h' tk, s' = { s with heap := h', toks := tk } ∧ (∀ b o, s.heap.get? b = some o → h'.get? b = some o) ∧ Reads h' v kd []) (fun _ _ => False) s
/-- what is asked of the lambda's text: one plain parameter x, no cells of its own -/
structure Lam1 (x : Str) (params : Arguments) (body : Expr) (scope : Scope) : Prop where
  kind : scope.kind = .function
  co : scope.isCoroutine = false
  gen : scope.isGenerator = false
  nc : ∀ y ∈ scope.names, y.2 ≠ .cell
  loc : scope.names.lookup x = some .local
  bind : ∀ (q : Str) (cl : List (Str × Addr)) (pm cv ctv v : Value), bindArgs (PySem.W.kla_fn "<lambda>" q params body scope cl pm cv ctv) ⟨[v], []⟩ = pure [(x, v)]
section
variable {prog : Program} {w : World} {A : Around} {s : Shared}
theorem lam_call1 {x : Str} {params : Arguments} {body : Expr} {scope : Scope} {qual : Str} {cl : List (Str × Addr)} {pm ctv v : Value} {f c' : Addr} {kd : PyData} (T : Lam1 x params body scope) (hroom : A.depth < recursionLimit)
    (ho : s.heap.get? f = some (PySem.W.kla_obj "<lambda>" qual params body scope cl pm c' ctv)) (hcd : s.heap.CodeRec (.ref c') qual) (lim : s.heap.NoLimit)
    (hb : ∀ h₁, (∀ b o, s.heap.get? b = some o → h₁.get? b = some o) → h₁.Ns s.heap.objs.size (fun y => ([(x, v)] : List (Str × Value)).reverse.lookup y) →
      KeyBody prog w (A.deeper (PySem.W.envX qual scope s.heap.objs.size f (.ref c') cl)) body (PySem.W.envX qual scope s.heap.objs.size f (.ref c') cl) kd { s with heap := h₁, toks := s.toks + ([(x, v)] : List (Str × Value)).length }) :
    wpAny (model prog w) A (call (.ref f) [v]) (PySem.W.KeyPure kd s) (fun _ _ => False) s := by
  refine wpAny_call (PySem.W.kla_callFunE hroom ho rfl T.co T.gen rfl hcd ?_)
  rw [T.bind]
  refine wpAny_pure (wpAny_newFunctionEnv T.nc (fun y hy => ?_) (fun h₁ hns hsb => ⟨lim.fresh _ hsb, ?_⟩) T.kind)
  · have e : y = (x, v) := by simpa using hy
    rw [e]
    exact T.loc
  · show codeAny _ _ (.expr body (PySem.W.envX qual scope s.heap.objs.size f (.ref c') cl)) _ _
    have kp : ∀ b o, s.heap.get? b = some o → h₁.get? b = some o := fun b o e => hsb.extBut b o (Nat.ne_of_lt (Heap.lt_size e)) (Heap.get?_push_of_some _ e)
    refine PySem.W.kla_codeExpr (wpAny_mono (hb h₁ kp hns) (fun u s' hq => ?_) fun _ _ z => z.elim)
    obtain ⟨h', tk, rfl, k, r⟩ := hq
    exact ⟨h', tk, rfl, fun b o e => k b o (kp b o e), r⟩
/-- xs[x], xs a captured list at D -/
theorem keyBody_item {x n1 : Str} {scope : Scope} {qual : Str} {cl : List (Str × Addr)} {f c c' L D : Addr} {its : List Value} {i : Int} {t : Tok} {u : Value} {kd : PyData} {p1 p2 pos : Pos}
    (hk : scope.kind = .function) (hx : scope.names.lookup x = some .local) (hn : scope.names.lookup n1 = some .free) (hc : cl.lookup n1 = some c) (hcell : s.heap.IsCell c (some (.ref D))) (hl : s.heap.IsList D its.toArray)
    (hns : s.heap.Ns L (fun y => ([(x, .int i t)] : List (Str × Value)).reverse.lookup y)) (h0 : 0 ≤ i) (hfit : i < 2 ^ 63) (hi : its[i.toNat]? = some u) (hr : Reads s.heap u kd [])
    (hd1 : (x == ("__debug__" : Str)) = false := by decide) (hd2 : (n1 == ("__debug__" : Str)) = false := by decide) (hcd : (n1 == ("__classdict__" : Str)) = false := by decide) :
    KeyBody prog w A (.Subscript (.Name n1 p1) (.Name x p2) pos) (PySem.W.envX qual scope L f (.ref c') cl) kd s := by
  unfold KeyBody
  refine Subscript_ (wpAny_Name (wpAny_loadName_free hk hn hc hcell ?_ hcd) hd2)
  refine wpAny_Name (wpAny_loadName_local hk hx hns (v := .int i t) (by simp [List.lookup]) ?_) hd1
  exact item_listR hl h0 hfit (by simpa using hi) ⟨s.heap, s.toks, rfl, fun _ _ e => e, hr⟩
/-- (xs[x], x), xs a captured list of whole numbers at D -/
theorem keyBody_pair {x n1 : Str} {scope : Scope} {qual : Str} {cl : List (Str × Addr)} {f c c' L D : Addr} {its : List Value} {i j : Int} {t u : Tok} {p1 p2 p3 pos tpos : Pos} {kx : Nat}
    (hk : scope.kind = .function) (hx : scope.names.lookup x = some .local) (hn : scope.names.lookup n1 = some .free) (hc : cl.lookup n1 = some c) (hcell : s.heap.IsCell c (some (.ref D))) (hl : s.heap.IsList D its.toArray)
    (hns : s.heap.Ns L (fun y => ([(x, .int i t)] : List (Str × Value)).reverse.lookup y)) (h0 : 0 ≤ i) (hfit : i < 2 ^ 63) (hi : its[i.toNat]? = some (.int j u))
    (hd1 : (x == ("__debug__" : Str)) = false := by decide) (hd2 : (n1 == ("__debug__" : Str)) = false := by decide) (hcd : (n1 == ("__classdict__" : Str)) = false := by decide) :
    KeyBody prog w A (.Tuple [.Subscript (.Name n1 p1) (.Name x p2) pos, .Name x p3] kx tpos) (PySem.W.envX qual scope L f (.ref c') cl) (.tuple [.int j, .int i]) s := by
  unfold KeyBody
  refine wpAny_Tuple_spliced ?_
  refine Calls.spliced_cons (Subscript_ (wpAny_Name (wpAny_loadName_free hk hn hc hcell ?_ hcd) hd2))
  refine wpAny_Name (wpAny_loadName_local hk hx hns (v := .int i t) (by simp [List.lookup]) ?_) hd1
  refine item_listR hl h0 hfit (by simpa using hi) ?_
  refine Calls.spliced_cons (wpAny_Name (wpAny_loadName_local hk hx hns (v := .int i t) (by simp [List.lookup]) ?_) hd1)
  refine Calls.spliced_nil ⟨by show 2 ≤ sizeLine; decide, ?_⟩
  refine ⟨_, s.toks, rfl, fun b o e => Heap.get?_push_of_some _ e, ?_⟩
  have e : ([] : List Addr) = [] ++ ([] ++ []) := rfl
  exact .tuple (Heap.get?_push_size _ rfl) rfl rfl (by rw [e]; exact .cons (.int _ _) (.cons (.int _ _) .nil))
end
/-! ### sorted(e, key=lambda x: body) -/
theorem vals_each : ∀ {ns : List Int} {its : List Value}, Vals (ns.map V.int) its → PySem.W.EachIs (fun v (i : Int) => ∃ t, v = Value.int i t) its ns
  | [], _, r => by
    cases r
    exact .nil
  | i :: ns, _, r => by
    cases r with
    | cons a b => exact .cons a (vals_each b)
theorem each_vals : ∀ {its : List Value} {ns : List Int}, PySem.W.EachIs (fun v (i : Int) => ∃ t, v = Value.int i t) its ns → Vals (ns.map V.int) its
  | _, _, .nil => .nil
  | _, _, .cons a b => .cons a (each_vals b)
theorem ExtN.sql {K : PySem.W.Frag} {H H' : Hp} {a : Addr} {xs : List V} (e : ExtN H H') (h : SqL K H a xs) : SqL K H' a xs := by
  rcases h with (h | ⟨o, h⟩) | h
  · exact .inl (.inl (e _ _ h fun ps z => by cases z))
  · exact .inl (.inr ⟨o, e _ _ h fun ps z => by cases z⟩)
  · exact .inr h
theorem ExtN.sqt {K : PySem.W.Frag} {H H' : Hp} {a : Addr} {xs : List V} (e : ExtN H H') (h : SqT K H a xs) : SqT K H' a xs := by
  rcases h with (h | ⟨o, h⟩) | h
  · exact .inl (.inl (e _ _ h fun ps z => by cases z))
  · exact .inl (.inr ⟨o, e _ _ h fun ps z => by cases z⟩)
  · exact .inr h
/-- what the key's body gives at each of the items, told of every later heap: KB i kd -/
def Keyed (X : Cx) (j : Nat) (n1 x : Str) (body : Expr) (scope : Scope) (σ : L2.St) (H : Hp) (ns : List Int) (k : Int → PyData) : Prop :=
  ∀ (A : Around) (s s2 : Shared) (pins : List (Addr × Obj)) (qual : Str) (cl : List (Str × Addr)) (f c c' L D : Addr) (i : Int) (t : Tok), i ∈ ns → Inv X pins σ H s → (∀ b o, s.heap.get? b = some o → s2.heap.get? b = some o) → σ[j]? = some (some (.ref D)) →
    cl.lookup n1 = some c → s2.heap.IsCell c (some (.ref D)) → s2.heap.Ns L (fun y => ([(x, .int i t)] : List (Str × Value)).reverse.lookup y) → KeyBody X.prog X.w A body (PySem.W.envX qual scope L f (.ref c') cl) (k i) s2
def tSortLam (X : Cx) (T : List (Addr × Str)) (j : Nat) (n1 x : Str) (body : Expr) (scope : Scope) (ta : TA) : TE := fun σ H Q => ta σ H fun vs H1 => ∃ (a D : Addr) (ns : List Int) (k : Int → PyData), vs = [.ref a] ∧ SqL X.K H1 a (ns.map V.int) ∧ Tabs T H1 ∧ σ[j]? = some (some (.ref D)) ∧
  PySem.W.AllAlike (ns.map k) ∧ PySem.W.Sortable (ns.map k) ∧ (∀ i ∈ ns, (k i).depth ≤ 8) ∧ ∀ H2, ExtN H1 H2 → Tabs T H2 → Keyed X j n1 x body scope σ H2 ns k ∧ ∀ p, H2 p = none → Q (.ref p) (upd H2 p (.lst ((ns.mergeSort (PySem.W.dataLe false k)).map V.int)))
section
variable {X : Cx}
theorem pe_sortLam {T : List (Addr × Str)} {c P : Addr} {j : Nat} {n1 x : Str} {params : Arguments} {body : Expr} {scope : Scope} {lpos kpos p pos : Pos} {e : Expr} {ta : TA} {k : Nat}
    (hg : Gl X "sorted") (hm : X.mg "sorted" = none) (ha : PA X [e] ta) (L : Lam1 x params body scope) (hdef : defaultsOf params X.env = ([], []))
    (hfree : ∀ y ∈ scope.names, y.2 = .free → X.env.scope.names.lookup y.1 = some .cell ∨ X.env.scope.names.lookup y.1 = some .free) (hn1 : (n1, NameKind.free) ∈ scope.names)
    (hN : X.N[j]? = some n1) (TB : TabB X.base X.mg c P) (hcode : X.env.code = .ref c) (hmT : (P, X.env.qual ++ "<lambda>") ∈ T) (hu : ∀ q ∈ T, q.1 = P → q.2 = X.env.qual ++ "<lambda>") (hr : Room k X.A)
    (hs1 : backTo pos (starEach [e] X.env) = (false, eval e X.env) :: backTo pos (starEach [] X.env) := by rfl) (hs2 : (backTo pos (starEach [e] X.env)).any (·.1) = false := by rfl) :
    PE X (.Call (.Name "sorted" p) [e] [⟨some "key", .Lambda params body scope lpos, kpos⟩] pos) (tSortLam X T j n1 x body scope ta) := by
  refine ⟨fun pins s σ H Q I h => ?_⟩
  have hfr : ∀ y ∈ scope.names, y.2 = .free → ∃ c, X.env.cells.lookup y.1 = some c := fun y hy q => (hfree y hy q).elim (fun z => I.ok.has _ (.inl z)) fun z => I.ok.has _ (.inr z)
  refine wpAny_Call_Name_kw (ld_blt I hg hm (u := .builtin "sorted") (by decide +kernel) ?_)
  refine PyProof.Rows.callWith_kw (thn (ha.run pos pins s σ H _ I h) fun us s1 hh => ?_) hs1 hs2
  obtain ⟨vs, H1, I1, r1, a, D, ns, kf, ev, hq, hT, hD, hal, hsk, hdp, q⟩ := hh
  subst ev
  obtain rfl := Vals.ref1 r1
  show wpAny _ _ (evalAll [(do let v ← eval (.Lambda params body scope lpos) X.env; standAt pos; pure v)]) _ _ s1
  refine wpAny_evalAll_cons (wpAny_bind (lam_make2 I1 TB hcode hmT hu hT hdef hfr fun f c' pm ctv H2 s2 I2 eN T2 hf hfn hfrs hco => wpAny_bind (wpAny_standAt (wpAny_pure (wpAny_evalAll_nil ?_)))))
  show wpAny _ _ (call (.builtin "sorted") [.ref a] [(Str.ofString "key", .ref f)]) _ _ s2
  obtain ⟨hK, hQ⟩ := q H2 eN T2
  obtain ⟨its, rv, pl, hz⟩ := I2.list (ExtN.sql eN hq)
  -- the captured cell
  obtain ⟨m, hn, hl⟩ := I2.loc
  have hkn := hfree (n1, .free) hn1 rfl
  obtain ⟨u, ru, lk⟩ := hl j n1 _ hN hD (hkn.elim (fun z => .inr (.inl z)) fun z => .inr (.inr z))
  cases (show u = Value.ref D from ru)
  obtain ⟨cc, hcc, hcell⟩ : ∃ cc, X.env.cells.lookup n1 = some cc ∧ s2.heap.IsCell cc (some (.ref D)) := by
    rcases lk with ⟨z, _⟩ | ⟨_, cc, e1, e2⟩
    · have z' : X.env.scope.names.lookup n1 = some .local := z
      rcases hkn with q | q <;> rw [show X.env.scope.names.lookup n1 = _ from q] at z' <;> cases z'
    · exact ⟨cc, e1, e2⟩
  have hclo : (cloFrom X.env.cells scope.names []).lookup n1 = some cc := clo_has hfr hn1 hcc
  have hdp1 := hr.dp
  have hun1 := hr.un
  refine PySem.W.sorted_key_data (b := false) kf pl.isList (vals_each rv) hal hsk (by rw [List.length_map] at hz; exact hz) (fun i hi => ?_) (PyProof.Rows.ksk_s1 _ _) (fun _ => PyProof.Rows.ksk_l1 _ _) (fun z => PyProof.Rows.ksk_t1 f z)
    (fun v i hv hi h tk hk => ?_) fun out ep h' tk keep fresh hD2 hlen heach => ?_
  · have := hdp i hi
    omega
  · obtain ⟨t, rfl⟩ := hv
    have I3 : L2.Inv X pins σ H2 { s2 with heap := h, toks := tk } := I2.kept hk
    refine lam_call1 (s := { s2 with heap := h, toks := tk }) L ?_ (hk _ _ hf) (codeO_at I3.hok hco) I3.nolimit fun h₁ kp hns => ?_
    · show X.A.in1.in1.depth < recursionLimit
      have e1 : X.A.in1.in1.depth = X.A.depth := rfl
      omega
    · refine hK _ { s2 with heap := h, toks := tk } { s2 with heap := h₁, toks := tk + 1 } pins _ _ _ cc _ _ D i t hi I3 kp hD hclo ?_ hns
      obtain ⟨o, ho, hd⟩ := hcell
      exact ⟨o, kp _ _ (hk _ _ ho), hd⟩
  · have hll : ((ns.mergeSort (PySem.W.dataLe false kf)).map V.int).length ≤ sizeLine := by
      rw [List.length_map, List.length_mergeSort]
      rw [List.length_map] at hz
      exact hz
    exact ⟨.ref _, upd H2 (s2.heap.objs.size + 1) (.lst ((ns.mergeSort (PySem.W.dataLe false kf)).map V.int)), I2.laid (t' := tk) keep (Nat.le_succ _) ⟨hll, out, ep, each_vals heach, hD2⟩, rfl, hQ _ (I2.hok.fresh (Nat.le_succ _))⟩
end
end Eo
set_option maxHeartbeats 2000000
namespace Eo
open PySem PySem.Spec PyProof.Rows L2 LamX
open C8 (pe_gc)
/-! ### what the module's names hold -/
structure Gd (K : PySem.W.Frag) (mg : Str → Option Value) : Prop where
  b_isinstance : mg "isinstance" = none
  b_int : mg "int" = none
  b_bool : mg "bool" = none
  b_tuple : mg "tuple" = none
  b_str : mg "str" = none
  b_len : mg "len" = none
  b_enumerate : mg "enumerate" = none
  b_range : mg "range" = none
  b_sorted : mg "sorted" = none
  b_list : mg "list" = none
  b_all : mg "all" = none
  b_abs : mg "abs" = none
  b_divmod : mg "divmod" = none
  b_repr : mg "repr" = none
  b_max : mg "max" = none
  b_min : mg "min" = none
  c_MOST_PLACES : ∃ u, mg "MOST_PLACES" = some u ∧ RelV (.int 60) u
  c_MOST_LETTER : ∃ u, mg "MOST_LETTER" = some u ∧ RelV (.int (10 ^ 18)) u
  c_PAST : ∃ u, mg "PAST" = some u ∧ RelV (.int (10 ^ 18 + 1)) u
  c_MARK : ∃ u, mg "MARK" = some u ∧ RelV (.int (-1)) u
/-- KINDS, at k -/
structure GK (K : PySem.W.Frag) (mg : Str → Option Value) (k : Addr) : Prop where
  at_ : ∃ u, mg "KINDS" = some u ∧ RelV (.ref k) u
  tup : ∀ H : Hp, SqT K H k [.str "first", .str "last", .str "ring"]
/-- a def of the text stands under its name -/
def Df (K : PySem.W.Frag) (mg : Str → Option Value) (x : Str) (st : Stmt) : Prop := ∃ f fd, FnP K x x st f fd ∧ mg x = some (.ref f)
/-- a def that may be called by its name, with its promise -/
def CalE (P : Program) (w : World) (K : PySem.W.Frag) (mg : Str → Option Value) (base : Heap) (CX : CXT) (k : Nat) (x : Str) (sp : Sp) : Prop :=
  ∃ f fd ps, FnOk P w K mg base CX k f fd ps sp ∧ mg x = some (.ref f) ∧ PySem.W.keepIn K (.ref f) = true ∧ Binds K fd ps []
/-- what may be in place of pe_call's many premises -/
def tCal (sp : Sp) (E : XK) (t : TA) : TE := fun σ H Q => t σ H fun vs H1 => sp vs H1 Q E
section
variable {X : Cx} {CX : CXT} {k : Nat} {sp : Sp} {E : XK} {x : Str} {p pos : Pos} {e : Expr} {es : List Expr} {t : TA}
theorem pe_cal (c : CalE X.prog X.w X.K X.mg X.base CX k x sp) (hr : Room k X.A) (hg : Gl X x) (hx : Passes CX X E) (ha : PA X (e :: es) t) (hdb : (x == ("__debug__" : Str)) = false := by decide)
    (he : starEach (e :: es) X.env = (false, eval e X.env) :: starEach es X.env := by rfl) (hpl : (backTo pos (starEach es X.env)).any (·.1) = false := by rfl) : PE X (.Call (.Name x p) (e :: es) [] pos) (tCal sp E t) := by
  obtain ⟨f, fd, ps, F, hm, hk, hb⟩ := c
  refine ⟨fun pins s σ H Q I h => ?_⟩
  refine (pe_call (dvs := []) F hr hg hm hk hb .nil hx ha hdb he hpl).run pins s σ H Q I ?_
  have z : (fun (vs : List V) (H1 : Hp) => sp (vs ++ []) H1 Q E) = fun vs H1 => sp vs H1 Q E := by
    funext vs H1
    rw [List.append_nil]
  show t σ H (fun vs H1 => sp (vs ++ []) H1 Q E)
  rw [z]
  exact h
theorem CalE.mono {P : Program} {w : World} {K : PySem.W.Frag} {mg : Str → Option Value} {base : Heap} {j : Nat} (c : CalE P w K mg base CX j x sp) (h : j ≤ k) : CalE P w K mg base CX k x sp := by
  obtain ⟨f, fd, ps, F, r⟩ := c
  exact ⟨f, fd, ps, F.mono h, r⟩
end
/-- how a def's arguments bind, by the text -/
def BindT (x : Str) (st : Stmt) (ps : List Str) : Prop :=
  ∀ (kV doc pm : Value) (an : Option Addr) (cdv ct : Value) (us : List Value), us.length = ps.length → bindArgs (PySem.W.fnOf x x (defArgs st) (defBody st) (defScope st) .none kV doc pm an cdv ct) ⟨us, []⟩ = pure (ps.zip us)
section
variable {P : Program} {w : World} {K : PySem.W.Frag} {mg : Str → Option Value} {base : Heap}
/-- THE RULE for a def of the text that lets nothing out -/
theorem Df.ok {x : Str} {st : Stmt} {N ps : List Str} {k : Nat} {sp : Sp} (D : Df K mg x st) (S : FnScope N ps (defScope st)) (B : BindT x st ps) (len : ∀ vs H Q E, sp vs H Q E → vs.length = ps.length)
    (hbody : ∀ (f : Addr) (cdv : Value) (A : Around) (outer : List Env) (s : Shared) (H : Hp) (vs : List V) (Q : VK) (E : XK), Room k (A.deeper (envOfC x (defScope st) s.heap.objs.size f cdv)) → sp vs H Q E →
      ∃ t, PSs (cxOf CX0 P w K mg base N x (defScope st) f cdv A outer s H E).nox (defBody st) t ∧ t { nx := fun _ H' => Q .non H', rt := Q } (start N vs) H) : CalE P w K mg base CX0 (k + 1) x sp := by
  obtain ⟨f, fd, F, hm⟩ := D
  refine ⟨f, fd, ps, F.ok S len fun cdv A outer s H vs Q E hr h => ?_, hm, F.kp, F.bindsN B⟩
  obtain ⟨t, h1, h2⟩ := hbody f cdv A outer s H vs Q E hr h
  exact ⟨t, h1.nox, h2⟩
end
/-! ### small words -/
abbrev ti (t : List Int) : List V := t.map V.int
theorem tyx_tup {K : PySem.W.Frag} {H : Hp} {a : Addr} {xs : List V} (h : SqT K H a xs) : TyX K H (.ref a) (.type "tuple") := by
  rcases h with (h | ⟨o, h⟩) | ⟨o, its, n, h1, h2, _⟩
  · exact .base (.tup h)
  · exact .fTuple h
  · exact .kTuple h1 h2
theorem Same.sqt {K : PySem.W.Frag} {H H' : Hp} {a : Addr} {xs : List V} (e : Same H H') (h : SqT K H a xs) : SqT K H' a xs := by
  rcases h with (h | ⟨o, h⟩) | h
  · exact .inl (.inl (e _ _ h))
  · exact .inl (.inr ⟨o, e _ _ h⟩)
  · exact .inr h
theorem Same.new {H : Hp} {p : Addr} {o : HO} (h : H p = none) : Same H (upd H p o) := fun b u e => by rw [upd_ne (ne_of_none e h)]; exact e
theorem dp_ints {K : PySem.W.Frag} {H : Hp} : ∀ t : List Int, DpAll K H (ti t) (t.map PyData.int)
  | [] => .nil
  | i :: t => .cons (.int i) (dp_ints t)
theorem shaped_ints (t : List Int) : SeqAt.shaped (.tuple (t.map PyData.int)) = true := by
  have h1 : ∀ l : List Int, PyData.canLayAll0 (l.map PyData.int) = true := by
    intro l
    induction l with
    | nil => simp [PyData.canLayAll0]
    | cons i l ih => simp [PyData.canLayAll0, PyData.canLay0, ih]
  have h2 : ∀ l : List Int, PyData.depthAll (l.map PyData.int) = 0 := by
    intro l
    induction l with
    | nil => simp [PyData.depthAll]
    | cons i l ih => simp [PyData.depthAll, PyData.depth, ih]
  show (PyData.canLay0 _ && decide (PyData.depth _ ≤ 64)) = true
  rw [Bool.and_eq_true]
  refine ⟨by simp only [PyData.canLay0]; exact h1 t, decide_eq_true ?_⟩
  simp only [PyData.depth, h2 t]
  omega
theorem eqv_ints : ∀ s t : List Int, PyData.eqv (.tuple (s.map PyData.int)) (.tuple (t.map PyData.int)) = decide (s = t) := by
  have h : ∀ s t : List Int, PyData.eqvAll (s.map PyData.int) (t.map PyData.int) = decide (s = t) := by
    intro s
    induction s with
    | nil => intro t; cases t <;> simp [PyData.eqvAll]
    | cons i s ih =>
      intro t
      cases t with
      | nil => simp [PyData.eqvAll]
      | cons j t =>
        simp only [List.map_cons, PyData.eqvAll, PyData.eqv, ih t]
        by_cases h1 : i = j <;> by_cases h2 : s = t <;> simp [h1, h2]
  intro s t
  simp only [PyData.eqv]
  exact h s t
/-- a text's letters -/
def Let (x : Int) : Prop := 0 ≤ x ∧ x ≤ 10 ^ 18
structure Tx (t : List Int) : Prop where
  ne : t ≠ []
  few : t.length ≤ 60
  let_ : ∀ x ∈ t, Let x
end Eo
set_option maxHeartbeats 2000000
namespace Eo
open PySem PySem.Spec PyProof.Rows L2 LamX
/-! ### defs that are called by position and by two names, turned about -/
def CalK (P : Program) (w : World) (K : PySem.W.Frag) (mg : Str → Option Value) (base : Heap) (k : Nat) (x : Str) (ks : List Str) (sp : Sp) : Prop :=
  ∃ f fd ps, FnOk P w K mg base CX0 k f fd ps sp ∧ mg x = some (.ref f) ∧ PySem.W.keepIn K (.ref f) = true ∧ Binds K fd ps [] ∧ KBn K fd ps 0 ks (fun _ ws => ws.reverse) (fun _ zs => zs.reverse)
theorem CalK.toE {P : Program} {w : World} {K : PySem.W.Frag} {mg : Str → Option Value} {base : Heap} {k : Nat} {x : Str} {ks : List Str} {sp : Sp} (c : CalK P w K mg base k x ks sp) : CalE P w K mg base CX0 k x sp := by
  obtain ⟨f, fd, ps, F, hm, hk, hb, _⟩ := c
  exact ⟨f, fd, ps, F, hm, hk, hb⟩
def BindK (x : Str) (st : Stmt) (ps ks : List Str) : Prop :=
  ∀ (kV doc pm : Value) (an : Option Addr) (cdv ct : Value) (us : List Value), us.length = ks.length → bindArgs (PySem.W.fnOf x x (defArgs st) (defBody st) (defScope st) .none kV doc pm an cdv ct) ⟨[], ks.zip us⟩ = pure (ps.zip us.reverse)
theorem vals_reverse : ∀ {zs : List V} {ws : List Value}, Vals zs ws → Vals zs.reverse ws.reverse
  | [], _, r => by
    cases r
    exact .nil
  | z :: zs, _, r => by
    cases r with
    | cons a b =>
      rw [List.reverse_cons, List.reverse_cons]
      exact (vals_reverse b).append (.cons a .nil)
section
variable {P : Program} {w : World} {K : PySem.W.Frag} {mg : Str → Option Value} {base : Heap}
theorem Df.okK {x : Str} {st : Stmt} {N ps ks : List Str} {k : Nat} {sp : Sp} (D : Df K mg x st) (S : FnScope N ps (defScope st)) (B : BindT x st ps) (BK : BindK x st ps ks) (len : ∀ vs H Q E, sp vs H Q E → vs.length = ps.length)
    (hbody : ∀ (f : Addr) (cdv : Value) (A : Around) (outer : List Env) (s : Shared) (H : Hp) (vs : List V) (Q : VK) (E : XK), Room k (A.deeper (envOfC x (defScope st) s.heap.objs.size f cdv)) → sp vs H Q E →
      ∃ t, PSs (cxOf CX0 P w K mg base N x (defScope st) f cdv A outer s H E).nox (defBody st) t ∧ t { nx := fun _ H' => Q .non H', rt := Q } (start N vs) H) : CalK P w K mg base (k + 1) x ks sp := by
  obtain ⟨f, fd, F, hm⟩ := D
  refine ⟨f, fd, ps, F.ok S len fun cdv A outer s H vs Q E hr h => ?_, hm, F.kp, F.bindsN B, ?_⟩
  · obtain ⟨t, h1, h2⟩ := hbody f cdv A outer s H vs Q E hr h
    exact ⟨t, h1.nox, h2⟩
  · obtain ⟨oc, od, dV, kV, doc, pm, an, cdv, ct, osl, rfl, lk, hcd, hD, hK⟩ := F.ex
    rcases hD with ⟨_, rfl⟩ | ⟨e, _⟩
    · exact ⟨fun s us ws _ h0 hl => by
        cases List.length_eq_zero_iff.mp h0
        exact BindsTo.of_looks fun M => PySem.W.Looks.of_pure (BK kV doc pm an cdv ct ws hl), fun _ r => vals_reverse r⟩
    · exact absurd rfl e
end
section
variable {X : Cx} {k : Nat} {sp : Sp} {E : XK} {x : Str} {ks : List Str} {p pos : Pos} {kws : List Keyword} {tk : TA}
theorem pe_calW (c : CalK X.prog X.w X.K X.mg X.base k x ks sp) (hr : Room k X.A) (hg : Gl X x) (hkw : PK X kws tk) (hall : (backToKw pos (keywordEach kws X.env)).all (·.1.isSome) = true := by rfl) (hks : (backToKw pos (keywordEach kws X.env)).filterMap (·.1) = ks := by rfl)
    (hdb : (x == ("__debug__" : Str)) = false := by decide) (hpl : ((backTo pos (starEach [] X.env)).any (·.1) || (backToKw pos (keywordEach kws X.env)).any (·.1.isNone)) = false := by rfl) :
    PE X (.Call (.Name x p) [] kws pos) (tCallW ks.length sp (fun _ zs => zs.reverse) (fun _ _ _ => False) tk) := by
  obtain ⟨f, fd, ps, F, hm, hk, hb, hkb⟩ := c
  exact pe_callW F hr hg hm hk hkb pass0 hkw hall hks hdb hpl
end
end Eo
set_option maxHeartbeats 4000000
namespace Eo
open PySem PySem.Spec PyProof.Rows L2 LamX
open C8 (pe_gc)
section
variable {P : Program} {w : World} {K : PySem.W.Frag} {mg : Str → Option Value} {base : Heap}
/-! ### is_integer -/
def spIsInteger : Sp := fun vs H Q _ => ∃ i : Int, vs = [.int i] ∧ Q (.bl true) H
theorem sc_isInteger : FnScope ["value"] ["value"] (defScope sIsInteger) := ⟨rfl, rfl, rfl, by decide +kernel, rfl, by decide +kernel, by decide +kernel⟩
theorem ok_isInteger (D : Df K mg "is_integer" sIsInteger) (G : Gd K mg) : CalE P w K mg base CX0 1 "is_integer" spIsInteger := by
  refine D.ok sc_isInteger (fun _ _ _ _ _ _ us hl => match us, hl with | [_], _ => rfl) (fun vs H Q E h => ?_) (fun f cdv A outer s H vs Q E hr h => ?_)
  · obtain ⟨i, rfl, _⟩ := h
    rfl
  · refine ⟨_, (pss_one (ps_ret (pe_and (pe_callB call_isi rfl G.b_isinstance (by decide +kernel) (pa_cons (pv 0) (pa_cons (pe_bltn (v := .ty "int") rfl G.b_int (by decide +kernel) rfl) pa_nil))) (pe_one (pe_not (pe_callB call_isi rfl G.b_isinstance (by decide +kernel) (pa_cons (pv 0) (pa_cons (pe_bltn (v := .ty "bool") rfl G.b_bool (by decide +kernel) rfl) pa_nil)))))))), ?_⟩
    obtain ⟨i, rfl, q⟩ := h
    refine ⟨_, rfl, ?_⟩
    refine ⟨.int i, .ty "int", .type "int", .type "int", true, rfl, .ty _, .base (.int i), kit_ty (by decide +kernel), true, rfl, ?_⟩
    refine iteT ⟨_, rfl, ?_⟩
    exact ⟨.int i, .ty "bool", .type "int", .type "bool", false, rfl, .ty _, .base (.int i), kit_ty (by decide +kernel), false, rfl, q⟩
/-! ### is_between -/
def spIsBetween : Sp := fun vs H Q _ => ∃ i l h : Int, vs = [.int i, .int l, .int h] ∧ Q (.bl (decide (l ≤ i ∧ i ≤ h))) H
theorem sc_isBetween : FnScope ["value", "low", "high"] ["value", "low", "high"] (defScope sIsBetween) := ⟨rfl, rfl, rfl, by decide +kernel, rfl, by decide +kernel, by decide +kernel⟩
theorem ok_isBetween (D : Df K mg "is_between" sIsBetween) (C_is_integer : CalE P w K mg base CX0 1 "is_integer" spIsInteger) : CalE P w K mg base CX0 2 "is_between" spIsBetween := by
  refine D.ok sc_isBetween (fun _ _ _ _ _ _ us hl => match us, hl with | [_, _, _], _ => rfl) (fun vs H Q E h => ?_) (fun f cdv A outer s H vs Q E hr h => ?_)
  · obtain ⟨i, l, h, rfl, _⟩ := h
    rfl
  · refine ⟨_, (pss_one (ps_ret (pe_and (pe_cal C_is_integer (hr.mono (by decide)) rfl pass0 (pa_cons (pv 0) pa_nil)) (pe_one (pe_chain op_le op_le (pv 1) (pv 0) (pv 2)))))), ?_⟩
    obtain ⟨i, l, h, rfl, q⟩ := h
    refine ⟨_, rfl, i, rfl, true, rfl, iteT ?_⟩
    refine ⟨_, rfl, _, rfl, l, i, rfl, rfl, decide (l ≤ i), rfl, ?_⟩
    by_cases h1 : l ≤ i
    · rw [decide_eq_true h1]
      refine iteT ⟨_, rfl, i, h, rfl, rfl, ?_⟩
      have e : decide (i ≤ h) = decide (l ≤ i ∧ i ≤ h) := by simp [h1]
      show Q (.bl (decide (i ≤ h))) H
      rw [e]
      exact q
    · rw [decide_eq_false h1]
      refine iteF ?_
      have e : decide (l ≤ i ∧ i ≤ h) = false := by simp [h1]
      rw [e] at q
      exact q
/-! ### is_letter -/
def spIsLetter : Sp := fun vs H Q _ => ∃ i : Int, vs = [.int i] ∧ Q (.bl (decide (0 ≤ i ∧ i ≤ 10 ^ 18))) H
theorem sc_isLetter : FnScope ["value"] ["value"] (defScope sIsLetter) := ⟨rfl, rfl, rfl, by decide +kernel, rfl, by decide +kernel, by decide +kernel⟩
theorem ok_isLetter (D : Df K mg "is_letter" sIsLetter) (G : Gd K mg) (C_is_between : CalE P w K mg base CX0 2 "is_between" spIsBetween) : CalE P w K mg base CX0 3 "is_letter" spIsLetter := by
  refine D.ok sc_isLetter (fun _ _ _ _ _ _ us hl => match us, hl with | [_], _ => rfl) (fun vs H Q E h => ?_) (fun f cdv A outer s H vs Q E hr h => ?_)
  · obtain ⟨i, rfl, _⟩ := h
    rfl
  · refine ⟨_, (pss_one (ps_ret (pe_cal C_is_between (hr.mono (by decide)) rfl pass0 (pa_cons (pv 0) (pa_cons pe_int (pa_cons (pe_gc rfl G.c_MOST_LETTER) pa_nil)))))), ?_⟩
    obtain ⟨i, rfl, q⟩ := h
    exact ⟨_, rfl, i, 0, 10 ^ 18, rfl, q⟩
/-! ### check_text -/
def spCheckText (K : PySem.W.Frag) : Sp := fun vs H Q _ => ∃ (a : Addr) (t : List Int), vs = [.ref a] ∧ SqT K H a (ti t) ∧ Tx t ∧ ∀ H', Same H H' → Q .non H'
theorem sc_checkText : FnScope ["text", "at", "letter"] ["text"] (defScope sCheckText) := ⟨rfl, rfl, rfl, by decide +kernel, rfl, by decide +kernel, by decide +kernel⟩
theorem ok_checkText (D : Df K mg "check_text" sCheckText) (G : Gd K mg) (C_is_letter : CalE P w K mg base CX0 3 "is_letter" spIsLetter) : CalE P w K mg base CX0 4 "check_text" (spCheckText K) := by
  have nd := sc_checkText.nd
  refine D.ok sc_checkText (fun _ _ _ _ _ _ us hl => match us, hl with | [_], _ => rfl) (fun vs H Q E h => ?_) (fun f cdv A outer s H vs Q E hr h => ?_)
  · obtain ⟨a, t, rfl, _⟩ := h
    rfl
  · refine ⟨_, (pss_cons (ps_if (PW.pt (pw_or (pt_not (pt_val (pe_callB call_isi rfl G.b_isinstance (by decide +kernel) (pa_cons (pv 0) (pa_cons (pe_bltn (v := .ty "tuple") rfl G.b_tuple (by decide +kernel) rfl) pa_nil))))) (pw_or1 (pt_cmpR (op_eqD hr.units) (pv 0) (pe_tup pa_nil) (nomark _))))) (pss_one ps_never) pss_nil)
  (pss_one (ps_for PassesOwn.never rfl (pi_enumT rfl G.b_enumerate (pa_cons (pv 0) pa_nil)) (pg_tup rfl (pgs_cons (pg_name (i := 1) nd rfl (Or.inl rfl)) (pgs_cons (pg_name (i := 2) nd rfl (Or.inl rfl)) pgs_nil)))
    (pss_one (ps_if (PW.pt (pw_or (pt_cmpR op_eq (pv 1) (pe_gc rfl G.c_MOST_PLACES) (nomark _)) (pw_or1 (pt_not (pt_val (pe_cal C_is_letter (hr.mono (by decide)) rfl pass0 (pa_cons (pv 2) pa_nil))))))) (pss_one ps_never) pss_nil))))), ?_⟩
    obtain ⟨a, t, rfl, ht, tx, q⟩ := h
    refine ⟨_, rfl, ?_⟩
    refine ⟨.ref a, .ty "tuple", .type "tuple", .type "tuple", true, rfl, .ty _, tyx_tup ht, kit_ty (by decide +kernel), true, rfl, ?_⟩
    refine iteF ⟨_, rfl, Nat.zero_le _, fun p hp => ?_⟩
    have e1 : Same H (upd H p (.tup [])) := Same.new hp
    refine ⟨.tuple (t.map PyData.int), .tuple ([].map PyData.int), .tup (Same.sqt e1 ht) (dp_ints t), .tup (SqT.of upd_same) (dp_ints []), shaped_ints t, shaped_ints [], ?_⟩
    rw [eqv_ints, decide_eq_false tx.ne]
    refine ⟨false, rfl, iteF ?_⟩
    refine ⟨_, rfl, a, ti t, rfl, Same.sqt e1 ht, ?_⟩
    refine for_it walk_enumT (fun i σ H' => Same H H' ∧ σ[0]? = some (some (.ref a)) ∧ σ.length = 3) ⟨e1, rfl, rfl⟩ (fun i σ H' _ p => Same.sqt p.1 ht) (fun i x σ H1 H2 hi p y => ?_) fun σ H' p => q H' p.1
    obtain ⟨s1, h0, hl⟩ := p
    obtain ⟨T, u, v, rfl, nT, rfl, eu, ev⟩ := y
    cases eu
    have hlt : i < t.length := by simpa using hi
    have hv : v = .int t[i] := by
      have z : (ti t)[i]? = some (.int t[i]) := by simp [hlt]
      have ev2 : (ti t)[i]? = some v := ev
      rw [z] at ev2
      exact (Option.some.inj ev2).symm
    subst hv
    have e2 : Same H (upd H1 T (.tup [.int (i : Nat), .int t[i]])) := s1.trans (Same.new nT)
    refine ⟨T, _, rfl, SqT.of upd_same, rfl, _, _, rfl, ?_⟩
    refine ⟨_, _, rfl, ?_⟩
    refine ⟨rfl, ?_⟩
    have l1 : 1 < σ.length := by omega
    refine ⟨_, by rw [List.getElem?_set_ne (by decide), List.getElem?_set_self l1], rfl, _, rfl, ?_⟩
    have n60 : ¬ ((i : Int) = 60) := by
      have := tx.few
      omega
    have dn : decide (V.int (i : Nat) = V.int 60) = false := decide_eq_false fun z => n60 (by injection z)
    rw [dn]
    refine iteF ?_
    refine ⟨_, by rw [List.getElem?_set_self (by rw [List.length_set]; omega)], _, rfl, ?_⟩
    have lt1 := tx.let_ t[i] (List.getElem_mem hlt)
    rw [decide_eq_true (show 0 ≤ t[i] ∧ t[i] ≤ 10 ^ 18 from lt1)]
    refine ⟨true, rfl, iteF ?_⟩
    exact ⟨e2, by rw [List.getElem?_set_ne (by decide), List.getElem?_set_ne (by decide)]; exact h0, by rw [List.length_set, List.length_set]; exact hl⟩
/-! ### check_kind -/
def kinds : List Str := ["first", "last", "ring"]
def spCheckKind : Sp := fun vs H Q _ => ∃ k : Str, vs = [.str k] ∧ k ∈ kinds ∧ Q .non H
theorem sc_checkKind : FnScope ["kind"] ["kind"] (defScope sCheckKind) := ⟨rfl, rfl, rfl, by decide +kernel, rfl, by decide +kernel, by decide +kernel⟩
theorem ok_checkKind {kk : Addr} (D : Df K mg "check_kind" sCheckKind) (G : Gd K mg) (GK1 : GK K mg kk) : CalE P w K mg base CX0 1 "check_kind" spCheckKind := by
  refine D.ok sc_checkKind (fun _ _ _ _ _ _ us hl => match us, hl with | [_], _ => rfl) (fun vs H Q E h => ?_) (fun f cdv A outer s H vs Q E hr h => ?_)
  · obtain ⟨k, rfl, _⟩ := h
    rfl
  · refine ⟨_, (pss_one (ps_if (PW.pt (pw_or (pt_not (pt_val (pe_callB call_isi rfl G.b_isinstance (by decide +kernel) (pa_cons (pv 0) (pa_cons (pe_bltn (v := .ty "str") rfl G.b_str (by decide +kernel) rfl) pa_nil))))) (pw_or1 (pt_cmpR op_notIn_seq (pv 0) (pe_gc rfl GK1.at_) (by rfl))))) (pss_one ps_never) pss_nil)), ?_⟩
    obtain ⟨k, rfl, hk, q⟩ := h
    refine ⟨_, rfl, ?_⟩
    refine ⟨.str k, .ty "str", .type "str", .type "str", true, rfl, .ty _, .base (.str k), kit_ty (by decide +kernel), true, rfl, ?_⟩
    refine iteF ⟨_, rfl, kk, _, rfl, .inr (GK1.tup H), rfl, rfl, ?_⟩
    have e : inV (.str k) [.str "first", .str "last", .str "ring"] = true := by
      rcases List.mem_cons.mp hk with z | z
      · rw [z]; decide +kernel
      · rcases List.mem_cons.mp z with z | z
        · rw [z]; decide +kernel
        · rcases List.mem_cons.mp z with z | z
          · rw [z]; decide +kernel
          · cases z
    rw [e]
    exact ⟨false, rfl, iteF q⟩
end
end Eo
set_option maxHeartbeats 4000000
namespace Eo
open PySem PySem.Spec PyProof.Rows L2 LamX
open C8 (pe_gc)
/-! ### slices and sums of tuples, whatever they make -/
theorem rSlA_by {K : PySem.W.Frag} {H : Hp} {a : Addr} {xs : List V} {lo hi : Option Int} {Q : VK} (h : SqT K H a xs) (hlo : HT.sIx xs.length 0 lo ≤ xs.length) (q : ∀ p H', Same H H' → SqT K H' p (cutV xs lo hi) → Q (.ref p) H') : rSlA K (.ref a) lo hi H Q := by
  refine ⟨a, xs, rfl, h, fun e => q a H (Same.refl _) ?_, fun _ p hp => q p _ (Same.new hp) (SqT.of upd_same)⟩
  have z : cutV xs lo hi = xs := by
    unfold cutV
    rw [e.1, e.2]
    simp
  rw [z]
  exact h
/-- past the part that is left out -/
theorem slLo {K : PySem.W.Frag} {σ : L2.St} {H : Hp} {x : V} {lo : Option Int} {Q : VK} (h : rSlA K x lo none H Q) : tNoPart σ H fun u H3 => rSlA K x lo u H3 Q := h
theorem rCatA_by {K : PySem.W.Frag} {H : Hp} {a b : Addr} {xs ys : List V} {Q : VK} (ha : SqT K H a xs) (hb : SqT K H b ys) (hz : xs.length + ys.length ≤ sizeLine) (q : ∀ p H', Same H H' → SqT K H' p (xs ++ ys) → Q (.ref p) H') : rCatA K (.ref a) (.ref b) H Q := by
  refine ⟨a, b, xs, ys, rfl, rfl, ha, hb, hz, fun e => q b H (Same.refl _) (by rw [e]; exact hb), fun _ e => q a H (Same.refl _) (by rw [e, List.append_nil]; exact ha), fun _ _ p hp => q p _ (Same.new hp) (SqT.of upd_same)⟩
theorem cut_drop (t : List Int) (p : Nat) (hp : p ≤ t.length) : cutV (ti t) (some (p : Int)) none = ti (t.drop p) := by
  unfold cutV
  rw [HT.sIx_nat, HT.sIx_none, List.length_map, Nat.min_eq_left hp, ← List.map_drop, ← List.map_take]
  congr 1
  rw [List.take_of_length_le]
  rw [List.length_drop]
  omega
theorem cut_take (t : List Int) (p : Nat) (hp : p ≤ t.length) : cutV (ti t) none (some (p : Int)) = ti (t.take p) := by
  unfold cutV
  rw [HT.sIx_nat, HT.sIx_none, List.length_map, Nat.min_eq_left hp, List.drop_zero, ← List.map_take, Nat.sub_zero]
theorem sIx_nat_le (n d p : Nat) : HT.sIx n d (some (p : Int)) ≤ n := by
  rw [HT.sIx_nat]
  exact Nat.min_le_right _ _
theorem ti_app (a b : List Int) : ti (a ++ b) = ti a ++ ti b := List.map_append
theorem vstr_eq (a b : Str) : decide (V.str a = V.str b) = decide (a = b) := by
  by_cases h : a = b
  · rw [h]; simp
  · rw [decide_eq_false h, decide_eq_false fun z => h (by injection z)]
/-! ### what a place's end is -/
def PASTI : Int := 10 ^ 18 + 1
def endL (k : Str) (t : List Int) (p : Nat) : List Int := if k = "ring" then t.drop p ++ t.take p else if k = "last" then t.drop p ++ [PASTI] else t.drop p
section
variable {P : Program} {w : World} {K : PySem.W.Frag} {mg : Str → Option Value} {base : Heap}
/-! ### end_of -/
def spEndOf (K : PySem.W.Frag) : Sp := fun vs H Q _ => ∃ (a : Addr) (t : List Int) (p : Nat) (k : Str), vs = [.ref a, .int (p : Int), .str k] ∧ SqT K H a (ti t) ∧ t.length ≤ 60 ∧ p ≤ t.length ∧ k ∈ kinds ∧ ∀ q H', Same H H' → SqT K H' q (ti (endL k t p)) → Q (.ref q) H'
theorem sc_endOf : FnScope ["text", "place", "kind"] ["text", "place", "kind"] (defScope sEndOf) := ⟨rfl, rfl, rfl, by decide +kernel, rfl, by decide +kernel, by decide +kernel⟩
theorem ok_endOf (D : Df K mg "end_of" sEndOf) (G : Gd K mg) : CalE P w K mg base CX0 1 "end_of" (spEndOf K) := by
  refine D.ok sc_endOf (fun _ _ _ _ _ _ us hl => match us, hl with | [_, _, _], _ => rfl) (fun vs H Q E h => ?_) (fun f cdv A outer s H vs Q E hr h => ?_)
  · obtain ⟨a, t, p, k, rfl, _⟩ := h
    rfl
  · refine ⟨_, (pss_cons (ps_if (pt_cmpR op_eq (pv 2) pe_str (nomark _)) (pss_one (ps_ret (pe_op op_catA (pe_slice sl_tupA (pv 0) (po_some (pv 1)) po_none) (pe_slice sl_tupA (pv 0) po_none (po_some (pv 1)))))) pss_nil)
  (pss_one (ps_ret (pe_ifExp (pt_cmpR op_eq (pv 2) pe_str (nomark _)) (pe_op op_catA (pe_slice sl_tupA (pv 0) (po_some (pv 1)) po_none) (pe_tup (pa_cons (pe_gc rfl G.c_PAST) pa_nil))) (pe_slice sl_tupA (pv 0) (po_some (pv 1)) po_none))))), ?_⟩
    obtain ⟨a, t, p, k, rfl, ht, hz, hp, hk, q⟩ := h
    have zl : (60 : Nat) + 60 ≤ sizeLine := by decide
    have l1 : (t.drop p).length ≤ 60 := by rw [List.length_drop]; omega
    have l2 : (t.take p).length ≤ 60 := by rw [List.length_take]; omega
    refine ⟨_, rfl, rfl, ?_⟩
    refine ⟨decide (k = "ring"), by rw [vstr_eq], ?_⟩
    by_cases h1 : k = "ring"
    · rw [decide_eq_true h1]
      have z1 : endL k t p = t.drop p ++ t.take p := if_pos h1
      refine iteT ⟨_, rfl, _, rfl, _, rfl, ?_⟩
      refine slLo (rSlA_by ht (sIx_nat_le _ _ _) fun p1 H1 s1 e1 => ?_)
      refine ⟨_, rfl, _, rfl, _, rfl, ?_⟩
      refine rSlA_by (Same.sqt s1 ht) (Nat.zero_le _) fun p2 H2 s2 e2 => ?_
      rw [cut_drop t p hp] at e1
      rw [cut_take t p hp] at e2
      refine rCatA_by (Same.sqt s2 e1) e2 (by rw [List.length_map, List.length_map]; omega) fun p3 H3 s3 e3 => ?_
      refine q p3 H3 ((s1.trans s2).trans s3) ?_
      rw [z1, ti_app]
      exact e3
    · rw [decide_eq_false h1]
      refine iteF ⟨_, rfl, rfl, decide (k = "last"), by rw [vstr_eq], ?_⟩
      by_cases h2 : k = "last"
      · rw [decide_eq_true h2]
        have z1 : endL k t p = t.drop p ++ [PASTI] := by rw [endL, if_neg h1, if_pos h2]
        refine iteT ⟨_, rfl, _, rfl, _, rfl, ?_⟩
        refine slLo (rSlA_by ht (sIx_nat_le _ _ _) fun p1 H1 s1 e1 => ?_)
        rw [cut_drop t p hp] at e1
        refine ⟨by decide, fun p2 hp2 => ?_⟩
        have s2 : Same H1 (upd H1 p2 (.tup [V.int PASTI])) := Same.new hp2
        refine rCatA_by (ys := ti [PASTI]) (Same.sqt s2 e1) (SqT.of upd_same) (by rw [List.length_map, List.length_map]; simp only [List.length_cons, List.length_nil]; omega) fun p3 H3 s3 e3 => ?_
        refine q p3 H3 ((s1.trans s2).trans s3) ?_
        rw [z1, ti_app]
        exact e3
      · rw [decide_eq_false h2]
        have z1 : endL k t p = t.drop p := by rw [endL, if_neg h1, if_neg h2]
        refine iteF ⟨_, rfl, _, rfl, _, rfl, ?_⟩
        refine slLo (rSlA_by ht (sIx_nat_le _ _ _) fun p1 H1 s1 e1 => ?_)
        rw [cut_drop t p hp] at e1
        refine q p1 H1 s1 ?_
        rw [z1]
        exact e1
end
end Eo
set_option maxHeartbeats 4000000
namespace Eo
open PySem PySem.Spec PyProof.Rows L2 LamX
open C8 (pe_gc)
/-! ### a def whose frames bear the code object at c -/
def DfC (K : PySem.W.Frag) (mg : Str → Option Value) (x : Str) (st : Stmt) (c : Addr) : Prop := ∃ f fd, FnP K x x st f fd ∧ mg x = some (.ref f) ∧ fd.code = .ref c
section
variable {P : Program} {w : World} {K : PySem.W.Frag} {mg : Str → Option Value} {base : Heap}
theorem DfC.okX {CX : CXT} {x : Str} {st : Stmt} {c : Addr} {N ps : List Str} {k : Nat} {sp : Sp} (D : DfC K mg x st c) (S : FnScope N ps (defScope st)) (B : BindT x st ps) (len : ∀ vs H Q E, sp vs H Q E → vs.length = ps.length)
    (hbody : ∀ (f : Addr) (A : Around) (outer : List Env) (s : Shared) (H : Hp) (vs : List V) (Q : VK) (E : XK), Room k (A.deeper (envOfC x (defScope st) s.heap.objs.size f (.ref c))) → sp vs H Q E →
      ∃ t, PSs (cxOf CX P w K mg base N x (defScope st) f (.ref c) A outer s H E) (defBody st) t ∧ t { nx := fun _ H' => Q .non H', rt := Q } (start N vs) H) : CalE P w K mg base CX (k + 1) x sp := by
  obtain ⟨f, fd, F, hm, hcode⟩ := D
  have F0 := F
  obtain ⟨oc, od, dV, kV, doc, pm, an, cdv, ct, osl, rfl, lk, hcd, _, _⟩ := F.ex
  have e : cdv = .ref c := hcode
  subst e
  refine ⟨f, _, ps, fn_of lk hcd S len fun A outer s H vs Q E hr hsp => hbody f A outer s H vs Q E hr hsp, hm, F0.kp, F0.bindsN B⟩
theorem Df.okX {CX : CXT} {x : Str} {st : Stmt} {N ps : List Str} {k : Nat} {sp : Sp} (D : Df K mg x st) (S : FnScope N ps (defScope st)) (B : BindT x st ps) (len : ∀ vs H Q E, sp vs H Q E → vs.length = ps.length)
    (hbody : ∀ (f : Addr) (cdv : Value) (A : Around) (outer : List Env) (s : Shared) (H : Hp) (vs : List V) (Q : VK) (E : XK), Room k (A.deeper (envOfC x (defScope st) s.heap.objs.size f cdv)) → sp vs H Q E →
      ∃ t, PSs (cxOf CX P w K mg base N x (defScope st) f cdv A outer s H E) (defBody st) t ∧ t { nx := fun _ H' => Q .non H', rt := Q } (start N vs) H) : CalE P w K mg base CX (k + 1) x sp := by
  obtain ⟨f, fd, F, hm⟩ := D
  exact ⟨f, fd, ps, F.ok S len fun cdv A outer s H vs Q E hr h => hbody f cdv A outer s H vs Q E hr h, hm, F.kp, F.bindsN B⟩
end
theorem passL {X : Cx} : Passes (L2.CX X.prog X.w) X (fun _ _ _ => False) := passes_call L2.takes0 fun _ _ _ _ h => h
/-! ### heaps: what a new list, written on, leaves -/
theorem sqt_lst {K : PySem.W.Frag} {H : Hp} {D b : Addr} {xs zs ys : List V} (hD : H D = some (.lst xs)) (h : SqT K H b ys) : SqT K (upd H D (.lst zs)) b ys := by
  have ne : ∀ o, H b = some o → (∀ l, o ≠ .lst l) → b ≠ D := fun o e n z => by
    rw [z, hD] at e
    exact n xs (Option.some.inj e).symm
  rcases h with (h | ⟨o, h⟩) | h
  · exact .inl (.inl (by rw [upd_ne (ne _ h fun l z => by cases z)]; exact h))
  · exact .inl (.inr ⟨o, by rw [upd_ne (ne _ h fun l z => by cases z)]; exact h⟩)
  · exact .inr h
theorem same_lst {H1 H : Hp} {D : Addr} {xs : List V} (e : Same H1 H) (n : H1 D = none) : Same H1 (upd H D (.lst xs)) := fun b o h => by
  rw [upd_ne (ne_of_none h n)]
  exact e b o h
theorem tabs_lst {T : List (Addr × Str)} {H : Hp} {D : Addr} {xs zs : List V} (hD : H D = some (.lst xs)) (t : Tabs T H) : Tabs T (upd H D (.lst zs)) := fun p hp => by
  obtain ⟨ps, h1, h2, h3⟩ := t p hp
  have nD : ∀ b o, H b = some o → (∀ l, o ≠ .lst l) → b ≠ D := fun b o e n z => by
    rw [z, hD] at e
    exact n xs (Option.some.inj e).symm
  refine ⟨ps, by rw [upd_ne (nD _ _ h1 fun l z => by cases z)]; exact h1, h2, fun pos cv hc => ?_⟩
  obtain ⟨c, e1, e2⟩ := h3 pos cv hc
  exact ⟨c, e1, by rw [upd_ne (nD _ _ e2 fun l z => by unfold CodeO at z; cases z)]; exact e2⟩
/-! ### tuples of whole numbers as keys -/
theorem readsAll_ints {h : Heap} : ∀ {t : List Int} {its : List Value}, Vals (ti t) its → ReadsAll h its (t.map PyData.int) []
  | [], _, r => by
    cases r
    exact .nil
  | i :: t, _, r => by
    cases r with
    | cons a b =>
      obtain ⟨k, rfl⟩ := a
      exact .cons (.int i k) (readsAll_ints b)
theorem sqt_reads {X : Cx} {pins : List (Addr × Obj)} {σ : L2.St} {H : Hp} {s : Shared} {a : Addr} {t : List Int} (I : Inv X pins σ H s) (h : SqT X.K H a (ti t)) {h2 : Heap} (k : ∀ b o, s.heap.get? b = some o → h2.get? b = some o) : Reads h2 (.ref a) (.tuple (t.map PyData.int)) [] := by
  obtain ⟨its, rv, ⟨o, ho, hc, n, hd⟩, hz⟩ := I.tuple h
  exact .tuple (k _ _ ho) hc hd (readsAll_ints rv)
def kT (f : Nat → List Int) (i : Int) : PyData := .tuple ((f i.toNat).map PyData.int)
theorem kT_depth (f : Nat → List Int) (i : Int) : (kT f i).depth ≤ 8 := by
  have h2 : ∀ l : List Int, PyData.depthAll (l.map PyData.int) = 0 := by
    intro l
    induction l with
    | nil => simp [PyData.depthAll]
    | cons i l ih => simp [PyData.depthAll, PyData.depth, ih]
  simp only [kT, PyData.depth, h2]
  omega
theorem kT_alike (f : Nat → List Int) (ns : List Int) : PySem.W.AllAlike (ns.map (kT f)) := PySem.W.AllAlike.of fun b b' => by
  simp only [kT, PySem.W.alike]
  exact PySem.W.alike_ints _ _
theorem kT_sortable (f : Nat → List Int) (ns : List Int) (h : ∀ i ∈ ns, f i.toNat ≠ []) : PySem.W.Sortable (ns.map (kT f)) := .inl fun d hd => by
  obtain ⟨i, hi, rfl⟩ := List.mem_map.mp hd
  cases e : f i.toNat with
  | nil => exact absurd e (h i hi)
  | cons x r => exact ⟨.int x, r.map PyData.int, by simp [kT, e]⟩
theorem kT_le (f : Nat → List Int) : PySem.W.dataLe false (kT f) = fun p q => decide (f p.toNat ≤ f q.toNat) := by
  refine Eq.trans ?_ (PySem.W.dataLe_rows (fun p : Int => f p.toNat))
  funext p q
  rw [PySem.W.dataLe_eq, PySem.W.dataLe_eq]
  simp only [kT, PySem.W.dataLt_tuple, PySem.W.dataLt_list]
def natI (l : List Nat) : List Int := l.map fun n : Nat => (n : Int)
theorem sort_nat (f : Nat → List Int) (l : List Nat) : (natI l).mergeSort (PySem.W.dataLe false (kT f)) = natI (l.mergeSort fun a b => decide (f a ≤ f b)) := by
  rw [kT_le]
  unfold natI
  rw [List.map_mergeSort]
  intro a _ b _
  simp
theorem rgV_nat (n : Nat) : rgV 0 (n : Int) = ti (natI (List.range n)) := by
  unfold rgV natI ti
  rw [List.map_map]
  simp
end Eo
set_option maxHeartbeats 4000000
namespace Eo
open PySem PySem.Spec PyProof.Rows L2 LamX
open C8 (pe_gc)
def arB : List Value := [.type "ArithmeticError", .type "Exception", .type "BaseException", .type "object"]
structure GR (K : PySem.W.Frag) (mg : Str → Option Value) (CR : Addr) : Prop where
  gC : mg "Repeated" = some (.ref CR)
  q : PySem.W.excIn K CR arB "ArithmeticError.__new__" = true
  kC : PySem.W.keepIn K (.ref CR) = true
  sub : PySem.W.subIn K (.ref CR) (.type "BaseException") = some true
  ty : PySem.W.typeIn K (.ref CR) = some (.type "type")
  exm : PySem.W.exmOne K (.ref CR) (.ref CR) = some true
theorem free_by {sc scope : Scope} (h : (scope.names.all fun y => !decide (y.2 = .free) || decide (sc.names.lookup y.1 = some .cell) || decide (sc.names.lookup y.1 = some .free)) = true) :
    ∀ y ∈ scope.names, y.2 = .free → sc.names.lookup y.1 = some .cell ∨ sc.names.lookup y.1 = some .free := fun y hy e => by
  have z := List.all_eq_true.mp h y hy
  simp only [Bool.or_eq_true, Bool.not_eq_true', decide_eq_true_eq, decide_eq_false_iff_not] at z
  rcases z with (z | z) | z
  · exact absurd e z
  · exact .inl z
  · exact .inr z
/-- past a comprehension's tests where there are none -/
theorem yes_lc {σ : L2.St} {H : Hp} {te : TE} {R : VK} {Nx : Hp → Prop} (h : te σ H R) : tYes σ H fun b H3 => if b = true then te σ H3 R else Nx H3 := by
  show (if true = true then te σ H R else Nx H)
  exact iteT h
def RowsT (K : PySem.W.Frag) (H : Hp) (acc : List Addr) (f : Nat → List Int) : Prop := ∀ j q, acc[j]? = some q → SqT K H q (ti (f j))
section
variable {K : PySem.W.Frag} {H H' : Hp} {acc : List Addr} {f : Nat → List Int} {D q : Addr} {xs zs : List V}
theorem RowsT.nil : RowsT K H [] f := fun j q h => by simp at h
theorem RowsT.same (r : RowsT K H acc f) (e : Same H H') : RowsT K H' acc f := fun j q h => Same.sqt e (r j q h)
theorem RowsT.lst (r : RowsT K H acc f) (hD : H D = some (.lst xs)) : RowsT K (upd H D (.lst zs)) acc f := fun j q h => sqt_lst hD (r j q h)
theorem RowsT.snoc (r : RowsT K H acc f) (h : SqT K H q (ti (f acc.length))) : RowsT K H (acc ++ [q]) f := fun j p e => by
  by_cases hj : j < acc.length
  · rw [List.getElem?_append_left hj] at e
    exact r j p e
  · rw [List.getElem?_append_right (by omega)] at e
    have z : j = acc.length := by
      cases hn : j - acc.length with
      | zero => omega
      | succ m =>
        rw [hn] at e
        simp at e
    subst z
    simp at e
    rw [← e]
    exact h
theorem RowsT.dp (r : RowsT K H acc f) : ∀ {m : Nat} {bs : List Addr} , bs = acc.drop m → DpAll K H (bs.map V.ref) (((List.range acc.length).drop m).map fun j => PyData.tuple ((f j).map PyData.int)) := by
  intro m bs
  induction hn : acc.length - m generalizing m bs with
  | zero =>
    intro e
    rw [e, List.drop_eq_nil_of_le (by omega), List.drop_eq_nil_of_le (by rw [List.length_range]; omega)]
    exact .nil
  | succ n ih =>
    intro e
    have hm : m < acc.length := by omega
    have hm2 : m < (List.range acc.length).length := by rw [List.length_range]; exact hm
    rw [e, List.drop_eq_getElem_cons hm, List.drop_eq_getElem_cons hm2]
    refine .cons ?_ (ih (m := m + 1) (by omega) rfl)
    rw [List.getElem_range]
    exact .tup (r m _ (List.getElem?_eq_getElem hm)) (dp_ints _)
end
theorem slLoL {K : PySem.W.Frag} {σ : L2.St} {H : Hp} {x : V} {lo : Option Int} {Q : VK} (h : rSlL K x lo none H Q) : tNoPart σ H fun u H3 => rSlL K x lo u H3 Q := h
theorem cut_tail (a : Addr) (r : List Addr) : cutV ((a :: r).map V.ref) (some 1) none = r.map V.ref := by
  unfold cutV
  rw [show (some (1 : Int)) = some ((1 : Nat) : Int) from rfl, HT.sIx_nat, HT.sIx_none]
  simp
  exact List.take_of_length_le (by simp)
theorem shaped_rows (f : Nat → List Int) (l : List Nat) : SeqAt.shaped (.list (l.map fun j => PyData.tuple ((f j).map PyData.int))) = true := by
  have h1 : ∀ l : List Nat, PyData.canLayAll0 (l.map fun j => PyData.tuple ((f j).map PyData.int)) = true ∧ PyData.depthAll (l.map fun j => PyData.tuple ((f j).map PyData.int)) ≤ 1 := by
    intro l
    induction l with
    | nil => simp [PyData.canLayAll0, PyData.depthAll]
    | cons i l ih =>
      have z := shaped_ints (f i)
      have z2 : PyData.canLay0 (.tuple ((f i).map PyData.int)) = true := by
        have z' : (PyData.canLay0 _ && decide (PyData.depth _ ≤ 64)) = true := z
        rw [Bool.and_eq_true] at z'
        exact z'.1
      have z3 : PyData.depth (.tuple ((f i).map PyData.int)) ≤ 1 := by
        have h2 : ∀ l : List Int, PyData.depthAll (l.map PyData.int) = 0 := by
          intro l
          induction l with
          | nil => simp [PyData.depthAll]
          | cons i l ih => simp [PyData.depthAll, PyData.depth, ih]
        simp only [PyData.depth, h2]
        omega
      refine ⟨by simp only [List.map_cons, PyData.canLayAll0, z2, ih.1, Bool.and_self], ?_⟩
      have z4 := ih.2
      simp only [List.map_cons, PyData.depthAll]
      omega
  show (PyData.canLay0 _ && decide (PyData.depth _ ≤ 64)) = true
  rw [Bool.and_eq_true]
  refine ⟨by simp only [PyData.canLay0]; exact (h1 l).1, decide_eq_true ?_⟩
  have := (h1 l).2
  simp only [PyData.depth]
  omega
theorem any_rows (f : Nat → List Int) (x : List Int) (l : List Nat) : ((l.map fun j => PyData.tuple ((f j).map PyData.int)).any fun z => PyData.eqv z (.tuple (x.map PyData.int))) = decide (x ∈ l.map f) := by
  induction l with
  | nil => simp
  | cons i l ih =>
    simp only [List.map_cons, List.any_cons, eqv_ints, ih, List.mem_cons]
    by_cases h : f i = x
    · simp [h]
    · have h2 : ¬ x = f i := fun z => h z.symm
      simp [h, h2]
def rep (k : Str) (t : List Int) : Prop := k = "ring" ∧ endL k t 0 ∈ ((List.range t.length).map (endL k t)).drop 1
instance (k : Str) (t : List Int) : Decidable (rep k t) := by unfold rep; infer_instance
def placesL (k : Str) (t : List Int) : List Nat := (List.range t.length).mergeSort fun a b => decide (endL k t a ≤ endL k t b)
section
variable {P : Program} {w : World} {K : PySem.W.Frag} {mg : Str → Option Value} {base : Heap}
/-! ### sorted_places -/
def qSorted : Str := "sorted_places.<locals>.<lambda>"
def lamBody : Expr → Expr
  | .Lambda _ b _ _ => b
  | e => e
def lamScope : Expr → Scope
  | .Lambda _ _ s _ => s
  | _ => ⟨.function, [], false, false, []⟩
def keyOf : Stmt → Expr
  | .Return (some (.Call _ _ [⟨_, e, _⟩] _)) _ => e
  | .Assign _ (.Call _ _ [⟨_, e, _⟩] _) _ => e
  | _ => .Constant .none 0 ⟨0, 0, 0, 0⟩
def lastS (l : List Stmt) (i : Nat) : Stmt := l.getD i (.Pass ⟨0, 0, 0, 0⟩)
abbrev sortedBody : Expr := lamBody (keyOf (lastS (defBody sSortedPlaces) 2))
abbrev sortedScope : Scope := lamScope (keyOf (lastS (defBody sSortedPlaces) 2))
def spSorted (K : PySem.W.Frag) (T : List (Addr × Str)) (CR : Addr) : Sp := fun vs H Q E => ∃ (a : Addr) (t : List Int) (k : Str), vs = [.ref a, .str k] ∧ SqT K H a (ti t) ∧ Tx t ∧ k ∈ kinds ∧ Tabs T H ∧
  ∀ H', ExtN H H' → Tabs T H' → (rep k t → E (.ref CR) none H') ∧ (¬ rep k t → ∀ p, H' p = some (.lst (ti (natI (placesL k t)))) → Q (.ref p) H')
def NSorted : List Str := ["text", "kind", "ends", "place"]
theorem sc_sorted : FnScope NSorted ["text", "kind"] (defScope sSortedPlaces) := ⟨rfl, rfl, rfl, by decide +kernel, rfl, by decide +kernel, by decide +kernel⟩
theorem endL_ne {k : Str} {t : List Int} {p : Nat} (h : p < t.length) : endL k t p ≠ [] := by
  have h1 : t.drop p ≠ [] := fun z => by
    have := congrArg List.length z
    rw [List.length_drop] at this
    simp at this
    omega
  unfold endL
  split
  · intro z
    exact h1 (List.append_eq_nil_iff.mp z).1
  · split
    · simp
    · exact h1
theorem ok_sorted {T : List (Addr × Str)} {CR c tP : Addr} (D : DfC K mg "sorted_places" sSortedPlaces c) (G : Gd K mg) (R : GR K mg CR) (TB : TabB base mg c tP) (hmT : (tP, qSorted) ∈ T) (hu : ∀ q ∈ T, q.1 = tP → q.2 = qSorted)
    (C_end_of : CalE P w K mg base CX0 1 "end_of" (spEndOf K)) : CalE P w K mg base (L2.CX P w) 2 "sorted_places" (spSorted K T CR) := by
  have nd := sc_sorted.nd
  refine D.okX sc_sorted (fun _ _ _ _ _ _ us hl => match us, hl with | [_, _], _ => rfl) (fun vs H Q E h => ?_) (fun f A outer s H vs Q E hr h => ?_)
  · obtain ⟨a, t, k, rfl, _⟩ := h
    rfl
  · have hun : (A.deeper (envOfC "sorted_places" (defScope sSortedPlaces) s.heap.objs.size f (.ref c))).units + 65 < cLine := by
      have := hr.un
      omega
    refine ⟨_, (pss_cons (ps_set (i := 2) nd rfl (Or.inr rfl) (pe_lc (own := [("place", 3)]) (g := gName 3) (tt := tYes) rfl nd (pi_range1 rfl G.b_range (pa_cons (pe_callB call_len rfl G.b_len (by decide +kernel) (pa_cons (pv 0) pa_nil)) pa_nil)) (blkOk_by (N := NSorted) (sc := defScope sSortedPlaces) (by decide +kernel)) (fun _ _ _ _ _ => pg_name (i := 3) nd rfl (Or.inl rfl)) (fun _ _ _ _ _ => pts_nil) (fun _ _ _ _ _ => (pe_cal C_end_of (hr.mono (by decide)) rfl pass0 (pa_cons (pv 0) (pa_cons (pv 3) (pa_cons (pv 1) pa_nil)))))))
  (pss_cons (ps_if (PW.pt (pw_and (pt_cmpR op_eq (pv 1) pe_str (nomark _)) (pw_and1 (pt_cmpR (op_inD hun) (pe_ix ix_list (pv 2) pe_int (fun _ _ => rfl)) (pe_slice sl_list (pv 2) (po_some pe_int) po_none) (by rfl))))) (pss_one (ps_raise rfl (takes_of rfl rfl rfl rfl) (pmk_own0 PySem.F.excBase_ArithmeticError R.q R.gC R.kC (raises_own R.sub R.ty) rfl))) pss_nil)
  (pss_one (ps_ret (pe_sortLam (T := T) (j := 2) (n1 := "ends") (x := "place") (k := 1) rfl G.b_sorted (pa_cons (pe_listRg rfl rfl G.b_list (prg_1 rfl G.b_range (pe_callB call_len rfl G.b_len (by decide +kernel) (pa_cons (pv 0) pa_nil)))) pa_nil) ⟨rfl, rfl, rfl, by decide +kernel, rfl, fun _ _ _ _ _ _ => rfl⟩ rfl (free_by (sc := defScope sSortedPlaces) (by decide +kernel)) (by decide +kernel) rfl TB rfl hmT hu hr))))), ?_⟩
    obtain ⟨a, t, k, rfl, ht, tx, hk, hT, q⟩ := h
    have few := tx.few
    refine ⟨_, rfl, ?_⟩
    refine ⟨_, t.length, rfl, .inr ⟨_, ht, by rw [List.length_map]⟩, ?_⟩
    refine ⟨_, rfl, by omega, by omega, ?_⟩
    have zl : (100 : Nat) ≤ sizeLine := by decide
    refine fun D hD => lc_it (walk_range (lo := 0) (n := t.length)) (fun i H' => Same H H' ∧ ∃ acc : List Addr, acc.length = i ∧ H' D = some (.lst (acc.map V.ref)) ∧ RowsT K H' acc (endL k t)) ⟨same_lst (Same.refl _) hD, [], rfl, upd_same, RowsT.nil⟩ (fun _ _ _ _ => trivial) (fun i x H1 H2 hi p y => ?_) fun H1 p => ?_
    · obtain ⟨s1, acc, hl, hDl, hrow⟩ := p
      obtain ⟨e1, e2⟩ := y
      subst e1
      have e3 : x = .int (i : Int) := by rw [e2]; show V.int (0 + (i : Int)) = _; rw [Int.zero_add]
      subst e3
      refine ⟨rfl, yes_lc ?_⟩
      refine ⟨_, rfl, _, rfl, _, rfl, a, t, i, k, rfl, Same.sqt s1 ht, few, Nat.le_of_lt hi, hk, fun q1 H3 s3 e3 => ?_⟩
      refine ⟨acc.map V.ref, s3 _ _ hDl, by rw [List.length_map]; omega, ?_⟩
      refine ⟨same_lst (s1.trans s3) hD, acc ++ [q1], by rw [List.length_append, hl]; rfl, ?_, ?_⟩
      · rw [List.map_append]
        exact upd_same
      · exact ((hrow.same s3).snoc (by rw [hl]; exact e3)).lst (s3 _ _ hDl)
    · obtain ⟨s1, acc, hl, hDl, hrow⟩ := p
      refine ⟨_, rfl, rfl, decide (k = "ring"), by rw [vstr_eq], ?_⟩
      have fin : ∀ Hx, Same H1 Hx → ¬ rep k t → tRet (tSortLam (cxOf (L2.CX P w) P w K mg base NSorted "sorted_places" (defScope sSortedPlaces) f (.ref c) A outer s H E) T 2 "ends" "place" sortedBody sortedScope
          (tCons (tLstRg (tRg1 (tCB (fun xs H_2 Q => ∃ x n, xs = [x] ∧ LenV K x H_2 n ∧ Q (V.int (n : Int)) H_2) (tCons (tVar 0) tNil)))) tNil)) { nx := fun _ H' => Q .non H', rt := Q } ((L2.start NSorted [.ref a, .str k]).set 2 (some (.ref D))) Hx := by
        intro Hx sx nr
        have s1 := s1.trans sx
        have hDl := sx _ _ hDl
        have hrow := hrow.same sx
        refine ⟨_, rfl, _, t.length, rfl, .inr ⟨_, Same.sqt s1 ht, by rw [List.length_map]⟩, _, rfl, RgOk.of_le (by omega) (by omega) (by omega) (by omega), fun p hp => ?_⟩
        have sp : Same Hx (upd Hx p (.lst (rgV 0 (t.length : Int)))) := Same.new hp
        refine ⟨p, D, natI (List.range t.length), kT (endL k t), rfl, .inl (.inl (by rw [upd_same, rgV_nat])), (hT.ext s1).ext sp, rfl, kT_alike _ _, kT_sortable _ _ (fun i hi => ?_), fun i _ => kT_depth _ i, fun H2 eN T2 => ?_⟩
        · obtain ⟨m, hm, rfl⟩ := List.mem_map.mp hi
          exact endL_ne (by simpa using List.mem_range.mp hm)
        have hD2 : H2 D = some (.lst (acc.map V.ref)) := eN _ _ (sp _ _ hDl) fun _ z => by cases z
        have hr2 : RowsT K H2 acc (endL k t) := fun j q e => ExtN.sqt eN (Same.sqt sp (hrow j q e))
        refine ⟨?_, fun p2 hp2 => ?_⟩
        · intro A' s0 s2 pins qual cl f' c1 c' L D' i tk hi I kp hD' hcl hcell hns
          cases (show some (some (V.ref D)) = some (some (V.ref D')) from hD')
          obtain ⟨m, hm, rfl⟩ := List.mem_map.mp hi
          have hm2 : m < acc.length := by rw [hl]; exact List.mem_range.mp hm
          have I2 := I.kept (t' := s0.toks) kp
          obtain ⟨its, rv, pl, hz⟩ := I2.list (.inl (.inl hD2))
          obtain ⟨u, hu1, ru⟩ := rv.get (i := m) (x := V.ref acc[m]) (by simp [hm2])
          cases (show u = Value.ref acc[m] from ru)
          exact keyBody_item (its := its) rfl rfl rfl hcl hcell pl.isList hns (by omega) (by omega) (by rw [Int.toNat_natCast]; exact hu1) (sqt_reads I (hr2 m _ (List.getElem?_eq_getElem hm2)) kp)
        · refine (q _ ?_ ?_).2 nr p2 ?_
          · exact ExtN.trans (ExtN.of s1) (ExtN.trans (ExtN.of sp) (ExtN.trans eN (ExtN.of (Same.new hp2))))
          · exact T2.ext (Same.new hp2)
          · rw [upd_same, sort_nat]
            rfl
      by_cases hk1 : k = "ring"
      · rw [decide_eq_true hk1]
        refine iteT ?_
        obtain ⟨a0, rest, rfl⟩ : ∃ a0 rest, acc = a0 :: rest := by
          cases acc with
          | nil => exact absurd (List.length_eq_zero_iff.mp hl.symm) tx.ne
          | cons a0 rest => exact ⟨a0, rest, rfl⟩
        refine ⟨_, rfl, D, _, 0, V.ref a0, rfl, rfl, .inl (.inl hDl), atI_nat (j := 0) rfl, ?_⟩
        refine ⟨_, rfl, 1, rfl, ?_⟩
        refine slLoL ⟨D, _, rfl, .inl (.inl hDl), fun p hp => ?_⟩
        have sp : Same H1 (upd H1 p (.lst (cutV ((a0 :: rest).map V.ref) (some 1) none))) := Same.new hp
        have ecut : cutV ((a0 :: rest).map V.ref) (some 1) none = rest.map V.ref := cut_tail _ _
        have hrp := hrow.same sp
        have dpr := hrp.dp (m := 1) (bs := rest) rfl
        rw [hl] at dpr
        refine ⟨.tuple ((endL k t 0).map PyData.int), _, .tup (hrp 0 a0 rfl) (dp_ints _), .lst (xs := rest.map V.ref) (.inl (.inl (upd_same.trans (by rw [ecut])))) dpr, shaped_ints _, shaped_rows _ _, ?_⟩
        refine ⟨decide (rep k t), by rw [any_rows]; simp only [rep, hk1, true_and, List.map_drop], ?_⟩
        have eN : ExtN H (upd H1 p (.lst (cutV ((a0 :: rest).map V.ref) (some 1) none))) := ExtN.trans (ExtN.of s1) (ExtN.of sp)
        have Tn : Tabs T (upd H1 p (.lst (cutV ((a0 :: rest).map V.ref) (some 1) none))) := (hT.ext s1).ext sp
        by_cases hrp1 : rep k t
        · rw [decide_eq_true hrp1]
          exact iteT ((q _ eN Tn).1 hrp1)
        · rw [decide_eq_false hrp1]
          exact iteF (fin _ sp hrp1)
      · rw [decide_eq_false hk1]
        exact iteF (iteF (fin _ (Same.refl _) fun z => hk1 z.1))
end
end Eo
set_option maxHeartbeats 4000000
namespace Eo
open PySem PySem.Spec PyProof.Rows L2 LamX
open C8 (pe_gc)
theorem wipe_set (σ : L2.St) (j : Nat) (v : Option V) : wipe ((wipe σ [j]).set j v) [j] = wipe σ [j] := by
  simp [wipe, List.set_set]
/-- a comprehension of whole numbers, no tests, its elements leave what stood -/
theorem lc_ints {J : It} {n : Nat} {G : Hp → Prop} {Y : Nat → Hp → V → Hp → Prop} (w : Walk J n G Y) {te : TE} {j : Nat} {σ : L2.St} {H : Hp} {D : Addr} {Qd : Hp → Prop} (vals : List Int) (hl : vals.length = n) (hn : n ≤ 1000) (hD : H D = none)
    (hG : ∀ H', Same H H' → G H') (hY : ∀ i H1 x H2, i < n → Y i H1 x H2 → Same H1 H2)
    (hs : ∀ i x H1 H2 v (R : VK), i < n → vals[i]? = some v → Same H H1 → Y i H1 x H2 → (∀ H3, Same H2 H3 → R (.int v) H3) → te ((wipe σ [j]).set j (some x)) H2 R) (hd : ∀ H', Same H H' → H' D = some (.lst (ti vals)) → Qd H') :
    ∃ W : Nat → Nat → Hp → Prop, (∃ m, W 0 m (upd H D (.lst []))) ∧ ∀ i m H, W i m H →
      (J.stop i H ∧ Qd H) ∨ (J.go i H ∧ ∃ Nx : Hp → Prop, (∀ H', Nx H' → ∃ m', m' < m ∧ W (i + 1) m' H') ∧ ∀ x H', J.yld i H x H' → gName j x (wipe σ [j]) H' fun σ2 H2 => wipe σ2 [j] = wipe σ [j] ∧ tYes σ2 H2 fun b H3 =>
        if b = true then te σ2 H3 fun y H4 => ∃ acc, H4 D = some (.lst acc) ∧ acc.length < sizeLine ∧ Nx (upd H4 D (.lst (acc ++ [y]))) else Nx H3) := by
  have zl : (1000 : Nat) ≤ sizeLine := by decide
  refine lc_it w (fun i H' => Same H H' ∧ H' D = some (.lst (ti (vals.take i)))) ⟨same_lst (Same.refl _) hD, upd_same⟩ (fun i H' _ p => hG H' p.1) (fun i x H1 H2 hi p y => ?_) fun H' p => ?_
  · obtain ⟨s1, e1⟩ := p
    have sY := hY i H1 x H2 hi y
    have hv : vals[i]? = some (vals[i]'(by omega)) := List.getElem?_eq_getElem _
    refine ⟨wipe_set _ _ _, yes_lc (hs i x H1 H2 _ _ hi hv s1 y fun H3 s3 => ?_)⟩
    refine ⟨_, s3 _ _ (sY _ _ e1), by rw [List.length_map, List.length_take]; omega, same_lst ((s1.trans sY).trans s3) hD, ?_⟩
    rw [upd_same, List.take_succ, hv, ti_app]
    rfl
  · refine hd H' p.1 ?_
    rw [← hl, List.take_length] at p
    exact p.2
theorem natI_get {l : List Nat} {i : Nat} {x : V} (h : (ti (natI l))[i]? = some x) : ∃ p, l[i]? = some p ∧ x = .int (p : Int) := by
  simp only [ti, natI, List.map_map, List.getElem?_map] at h
  cases e : l[i]? with
  | none => rw [e] at h; simp at h
  | some p =>
    rw [e] at h
    simp at h
    exact ⟨p, rfl, h.symm⟩
theorem natI_len (l : List Nat) : (ti (natI l)).length = l.length := by simp [ti, natI]
theorem ti_len (l : List Int) : (ti l).length = l.length := by simp [ti]
/-! ### a column -/
def wholeL (k : Str) (t : List Int) : List Nat := if k = "ring" then placesL k t else if k = "first" then t.length :: placesL k t else placesL k t ++ [t.length]
def chL (k : Str) (t : List Int) (p : Nat) : Int := if p = 0 then (if k = "ring" then t.getD (t.length - 1) 0 else -1) else t.getD (p - 1) 0
def colL (k : Str) (t : List Int) : List Int := (wholeL k t).map (chL k t)
theorem placesL_len (k : Str) (t : List Int) : (placesL k t).length = t.length := by
  unfold placesL
  rw [List.length_mergeSort, List.length_range]
theorem placesL_mem {k : Str} {t : List Int} {p : Nat} : p ∈ placesL k t ↔ p < t.length := by
  unfold placesL
  rw [List.mem_mergeSort, List.mem_range]
theorem wholeL_len {k : Str} {t : List Int} (h : ¬ k = "ring") : (wholeL k t).length = t.length + 1 := by
  have lp := placesL_len k t
  unfold wholeL
  rw [if_neg h]
  split
  · rw [List.length_cons, lp]
  · rw [List.length_append, lp]
    rfl
theorem wholeL_le {k : Str} {t : List Int} {p : Nat} (h : p ∈ wholeL k t) : p ≤ t.length := by
  unfold wholeL at h
  split at h
  · exact Nat.le_of_lt (placesL_mem.mp h)
  · split at h
    · rcases List.mem_cons.mp h with z | z
      · omega
      · exact Nat.le_of_lt (placesL_mem.mp z)
    · rcases List.mem_append.mp h with z | z
      · exact Nat.le_of_lt (placesL_mem.mp z)
      · have : p = t.length := by simpa using z
        omega
theorem at_before {k : Str} {t : List Int} {p : Nat} (hp : p ≤ t.length) (h0 : 0 < p) : atI (ti t) ((p : Int) - 1) = some (.int (chL k t p)) := by
  have e : (p : Int) - 1 = ((p - 1 : Nat) : Int) := by omega
  rw [e]
  refine atI_nat ?_
  have h1 : p - 1 < t.length := by omega
  unfold chL
  rw [if_neg (by omega)]
  simp [ti, h1]
theorem at_last {t : List Int} (h : t ≠ []) : atI (ti t) (((0 : Nat) : Int) - 1) = some (.int (chL "ring" t 0)) := by
  obtain ⟨u, x, rfl⟩ : ∃ u x, t = u ++ [x] := ⟨t.dropLast, t.getLast h, (List.dropLast_concat_getLast h).symm⟩
  have e : chL "ring" (u ++ [x]) 0 = x := by
    unfold chL
    rw [if_pos rfl, if_pos rfl]
    simp
  rw [e, ti_app]
  exact atI_last _ _
section
variable {P : Program} {w : World} {K : PySem.W.Frag} {mg : Str → Option Value} {base : Heap}
/-! ### column_of -/
def spColumn (K : PySem.W.Frag) (T : List (Addr × Str)) (CR : Addr) : Sp := fun vs H Q E => ∃ (a : Addr) (t : List Int) (k : Str), vs = [.ref a, .str k] ∧ SqT K H a (ti t) ∧ Tx t ∧ k ∈ kinds ∧ Tabs T H ∧
  ∀ H', ExtN H H' → Tabs T H' → (rep k t → E (.ref CR) none H') ∧ (¬ rep k t → ∀ p, SqT K H' p (ti (colL k t)) → Q (.ref p) H')
def NColumn : List Str := ["text", "kind", "places", "whole", "place"]
theorem sc_column : FnScope NColumn ["text", "kind"] (defScope sColumnOf) := ⟨rfl, rfl, rfl, by decide +kernel, rfl, by decide +kernel, by decide +kernel⟩
theorem ok_column {T : List (Addr × Str)} {CR : Addr} (D : Df K mg "column_of" sColumnOf) (G : Gd K mg) (C_check_text : CalE P w K mg base CX0 4 "check_text" (spCheckText K)) (C_check_kind : CalE P w K mg base CX0 1 "check_kind" spCheckKind)
    (C_sorted_places : CalE P w K mg base (L2.CX P w) 2 "sorted_places" (spSorted K T CR)) : CalE P w K mg base (L2.CX P w) 5 "column_of" (spColumn K T CR) := by
  have nd := sc_column.nd
  refine D.okX sc_column (fun _ _ _ _ _ _ us hl => match us, hl with | [_, _], _ => rfl) (fun vs H Q E h => ?_) (fun f cdv A outer s H vs Q E hr h => ?_)
  · obtain ⟨a, t, k, rfl, _⟩ := h
    rfl
  · refine ⟨_, (pss_cons (ps_expr (pe_cal C_check_text (hr.mono (by decide)) rfl pass0 (pa_cons (pv 0) pa_nil)))
  (pss_cons (ps_expr (pe_cal C_check_kind (hr.mono (by decide)) rfl pass0 (pa_cons (pv 1) pa_nil)))
  (pss_cons (ps_set (i := 2) nd rfl (Or.inl rfl) (pe_cal (E := E) C_sorted_places (hr.mono (by decide)) rfl (passes_call (takes_of rfl rfl rfl rfl) fun _ _ _ _ h => h) (pa_cons (pv 0) (pa_cons (pv 1) pa_nil))))
  (pss_cons (ps_if (pt_cmpR op_eq (pv 1) pe_str (nomark _)) (pss_one (ps_ret (pe_callTy call_tuple_of rfl G.b_tuple (by decide +kernel) (pa_cons (pe_lc (own := [("place", 4)]) (g := gName 4) (tt := tYes) rfl nd (pi_list (pv 2)) (blkOk_by (N := NColumn) (sc := defScope sColumnOf) (by decide +kernel)) (fun _ _ _ _ _ => pg_name (i := 4) nd rfl (Or.inl rfl)) (fun _ _ _ _ _ => pts_nil) (fun _ _ _ _ _ => (pe_ix (r := rIxT K) ix_tup (pv 0) (pe_op op_sub (pv 4) pe_int) (fun _ _ => rfl)))) pa_nil)))) pss_nil)
  (pss_cons (ps_set (i := 3) nd rfl (Or.inl rfl) (pe_ifExp (pt_cmpR op_eq (pv 1) pe_str (nomark _)) (pe_lst (pa_cons (pe_callB call_len rfl G.b_len (by decide +kernel) (pa_cons (pv 0) pa_nil)) (pa_starL (pv 2) pa_nil))) (pe_lst (pa_starL (pv 2) (pa_cons (pe_callB call_len rfl G.b_len (by decide +kernel) (pa_cons (pv 0) pa_nil)) pa_nil)))))
  (pss_one (ps_ret (pe_callTy call_tuple_of rfl G.b_tuple (by decide +kernel) (pa_cons (pe_lc (own := [("place", 4)]) (g := gName 4) (tt := tYes) rfl nd (pi_list (pv 3)) (blkOk_by (N := NColumn) (sc := defScope sColumnOf) (by decide +kernel)) (fun _ _ _ _ _ => pg_name (i := 4) nd rfl (Or.inl rfl)) (fun _ _ _ _ _ => pts_nil) (fun _ _ _ _ _ => (pe_ifExp (pt_cmpR op_gt (pv 4) pe_int (nomark _)) (pe_ix (r := rIxT K) ix_tup (pv 0) (pe_op op_sub (pv 4) pe_int) (fun _ _ => rfl)) (pe_gc rfl G.c_MARK)))) pa_nil))))))))), ?_⟩
    obtain ⟨a, t, k, rfl, ht, tx, hk, hT, q⟩ := h
    have few := tx.few
    refine ⟨_, rfl, a, t, rfl, ht, tx, fun H1 s1 => ?_⟩
    refine ⟨_, rfl, k, rfl, hk, ?_⟩
    have ht1 := Same.sqt s1 ht
    refine ⟨_, rfl, _, rfl, a, t, k, rfl, ht1, tx, hk, hT.ext s1, fun H2 eN T2 => ⟨fun r => (q H2 (ExtN.trans (ExtN.of s1) eN) T2).1 r, fun nr p hp => ?_⟩⟩
    have ht2 := ExtN.sqt eN ht1
    refine ⟨_, rfl, rfl, decide (k = "ring"), by rw [vstr_eq], ?_⟩
    have endQ : ∀ (H3 : Hp), ExtN H2 H3 → Tabs T H3 → ∀ q1, SqT K H3 q1 (ti (colL k t)) → Q (.ref q1) H3 := fun H3 eN3 T3 q1 h1 => (q H3 (ExtN.trans (ExtN.of s1) (ExtN.trans eN eN3)) T3).2 nr q1 h1
    by_cases hk1 : k = "ring"
    · rw [decide_eq_true hk1]
      have ew : wholeL k t = placesL k t := if_pos hk1
      refine iteT ⟨_, rfl, p, rfl, ⟨_, .inl (.inl hp)⟩, fun D hD => ?_⟩
      have ecl : (colL k t).length = t.length := by rw [colL, List.length_map, ew, placesL_len]
      refine lc_ints walk_list (colL k t) (by rw [natI_len, placesL_len, ecl]) (by rw [natI_len, placesL_len]; omega) hD (fun H' s' => .inl (.inl (s' _ _ hp))) (fun i Ha x Hb _ y => by rw [y.1]; exact Same.refl _) (fun i x Ha Hb v R hi hv sa y r => ?_) fun H3 s3 h3 => ?_
      · obtain ⟨e1, e2⟩ := y
        subst e1
        obtain ⟨pp, e3, e4⟩ := natI_get e2
        subst e4
        have hpp : pp < t.length := placesL_mem.mp (List.mem_of_getElem? e3)
        have ev : v = chL k t pp := by
          have z : (colL k t)[i]? = some (chL k t pp) := by rw [colL, List.getElem?_map, ew, e3]; rfl
          rw [z] at hv
          exact (Option.some.inj hv).symm
        refine ⟨_, rfl, _, rfl, _, _, rfl, rfl, ?_⟩
        refine ⟨a, _, _, _, rfl, rfl, Same.sqt sa ht2, ?_, r Hb (Same.refl _)⟩
        rw [ev]
        by_cases h0 : pp = 0
        · rw [h0, hk1]
          exact at_last tx.ne
        · exact at_before (by omega) (by omega)
      · refine ⟨D, _, rfl, .inl ⟨.inl (.inl h3), fun l hl => ?_⟩⟩
        exact endQ _ (ExtN.of (s3.trans (Same.new hl))) ((T2.ext s3).ext (Same.new hl)) l (SqT.of upd_same)
    · rw [decide_eq_false hk1]
      refine iteF ⟨_, rfl, rfl, decide (k = "first"), by rw [vstr_eq], ?_⟩
      have zl : (100 : Nat) ≤ sizeLine := by decide
      have rest : ∀ (q1 : Addr) (Hx : Hp), Same H2 Hx → Hx q1 = some (.lst (ti (natI (wholeL k t)))) → tRet (tCB (fun xs H_2 Q => ∃ p ys, xs = [.ref p] ∧ ((SqL K H_2 p ys ∧ ∀ l, H_2 l = none → Q (.ref l) (upd H_2 l (.tup ys))) ∨ (SqT K H_2 p ys ∧ Q (.ref p) H_2)))
          (tCons (tLc (iList K (tVar 3)) (gName 4) tYes (tIf (tTest (tOp (rI0 fun i j => V.bl (decide (j < i))) (tVar 4) (tC (V.int 0)))) (tOp (rIxT K) (tVar 0) (tOp (rI0 fun i j => V.int (i - j)) (tVar 4) (tC (V.int 1)))) (tC (V.int (-1)))) [4]) tNil))
          { nx := fun _ H' => Q .non H', rt := Q } (((L2.start NColumn [.ref a, .str k]).set 2 (some (.ref p))).set 3 (some (.ref q1))) Hx := by
        intro q1 Hx sx hq1
        refine ⟨_, rfl, q1, rfl, ⟨_, .inl (.inl hq1)⟩, fun D hD => ?_⟩
        have ecl : (colL k t).length = (wholeL k t).length := by rw [colL, List.length_map]
        refine lc_ints walk_list (colL k t) (by rw [natI_len, ecl]) (by rw [natI_len, wholeL_len hk1]; omega) hD (fun H' s' => .inl (.inl (s' _ _ hq1))) (fun i Ha x Hb _ y => by rw [y.1]; exact Same.refl _) (fun i x Ha Hb v R hi hv sa y r => ?_) fun H3 s3 h3 => ?_
        · obtain ⟨e1, e2⟩ := y
          subst e1
          obtain ⟨pp, e3, e4⟩ := natI_get e2
          subst e4
          have hpp : pp ≤ t.length := wholeL_le (List.mem_of_getElem? e3)
          have ev : v = chL k t pp := by
            have z : (colL k t)[i]? = some (chL k t pp) := by rw [colL, List.getElem?_map, e3]; rfl
            rw [z] at hv
            exact (Option.some.inj hv).symm
          refine ⟨_, rfl, _, _, rfl, rfl, decide (0 < (pp : Int)), rfl, ?_⟩
          by_cases h0 : pp = 0
          · have z : decide (0 < (pp : Int)) = false := decide_eq_false (by omega)
            rw [z]
            refine iteF ?_
            have e : chL k t pp = -1 := by rw [chL, if_pos h0, if_neg hk1]
            rw [← e, ← ev]
            exact r Hb (Same.refl _)
          · have z : decide (0 < (pp : Int)) = true := decide_eq_true (by omega)
            rw [z]
            refine iteT ⟨_, rfl, _, rfl, _, _, rfl, rfl, ?_⟩
            refine ⟨a, _, _, _, rfl, rfl, Same.sqt (sx.trans sa) ht2, ?_, r Hb (Same.refl _)⟩
            rw [ev]
            exact at_before hpp (by omega)
        · refine ⟨D, _, rfl, .inl ⟨.inl (.inl h3), fun l hl => ?_⟩⟩
          exact endQ _ (ExtN.of ((sx.trans s3).trans (Same.new hl))) (((T2.ext sx).ext s3).ext (Same.new hl)) l (SqT.of upd_same)
      have lp := placesL_len k t
      by_cases hk2 : k = "first"
      · rw [decide_eq_true hk2]
        have ew : wholeL k t = t.length :: placesL k t := by rw [wholeL, if_neg hk1, if_pos hk2]
        refine iteT ⟨_, rfl, _, t.length, rfl, .inr ⟨_, ht2, by rw [ti_len]⟩, _, rfl, p, _, rfl, .inl (.inl hp), ?_⟩
        refine ⟨by rw [List.append_nil, List.length_cons, natI_len, lp]; omega, fun q1 hq1 => rest q1 _ (Same.new hq1) ?_⟩
        rw [upd_same, ew, List.append_nil]
        rfl
      · rw [decide_eq_false hk2]
        have ew : wholeL k t = placesL k t ++ [t.length] := by rw [wholeL, if_neg hk1, if_neg hk2]
        refine iteF ⟨_, rfl, p, _, rfl, .inl (.inl hp), _, rfl, _, t.length, rfl, .inr ⟨_, ht2, by rw [ti_len]⟩, ?_⟩
        refine ⟨by rw [List.length_append, natI_len, lp]; simp only [List.length_cons, List.length_nil]; omega, fun q1 hq1 => rest q1 _ (Same.new hq1) ?_⟩
        rw [upd_same, ew]
        simp only [ti, natI, List.map_append, List.map_cons, List.map_nil]
end
end Eo
set_option maxHeartbeats 4000000
namespace Eo
open PySem PySem.Spec PyProof.Rows L2 LamX
open C8 (pe_gc)
/-- places that a text can have -/
structure Pl (ps : List Nat) : Prop where
  ne : ps ≠ []
  few : ps.length ≤ 60
  lt_ : ∀ p ∈ ps, p < ps.length
  nd : ps.Nodup
theorem natI_take (ps : List Nat) (i : Nat) (hi : i ≤ ps.length) : cutV (ti (natI ps)) none (some (i : Int)) = ti (natI (ps.take i)) := by
  have h : i ≤ (natI ps).length := by simpa [natI] using hi
  rw [cut_take _ _ h]
  simp [natI, List.map_take]
theorem flat_ti (l : List Int) : (ti l).all flatV = true := by
  simp [ti, List.all_map, flatV]
theorem not_in_ti {l : List Int} {x : Int} (h : x ∉ l) : inV (.int x) (ti l) = false := by
  simp only [inV, ti, List.any_map]
  rw [List.any_eq_false]
  intro y hy
  have : ¬ y = x := fun z => h (by rw [← z]; exact hy)
  simp [eqV, this]
section
variable {P : Program} {w : World} {K : PySem.W.Frag} {mg : Str → Option Value} {base : Heap}
/-! ### check_places -/
def spCheckPlaces (K : PySem.W.Frag) : Sp := fun vs H Q _ => ∃ (a : Addr) (ps : List Nat), vs = [.ref a] ∧ SqT K H a (ti (natI ps)) ∧ Pl ps ∧ ∀ H', Same H H' → Q .non H'
theorem sc_checkPlaces : FnScope ["places", "at", "place"] ["places"] (defScope sCheckPlaces) := ⟨rfl, rfl, rfl, by decide +kernel, rfl, by decide +kernel, by decide +kernel⟩
theorem ok_checkPlaces (D : Df K mg "check_places" sCheckPlaces) (G : Gd K mg) (C_is_between : CalE P w K mg base CX0 2 "is_between" spIsBetween) : CalE P w K mg base CX0 3 "check_places" (spCheckPlaces K) := by
  have nd := sc_checkPlaces.nd
  refine D.ok sc_checkPlaces (fun _ _ _ _ _ _ us hl => match us, hl with | [_], _ => rfl) (fun vs H Q E h => ?_) (fun f cdv A outer s H vs Q E hr h => ?_)
  · obtain ⟨a, t, rfl, _⟩ := h
    rfl
  · refine ⟨_, (pss_cons (ps_if (PW.pt (pw_or (pt_not (pt_val (pe_callB call_isi rfl G.b_isinstance (by decide +kernel) (pa_cons (pv 0) (pa_cons (pe_bltn (v := .ty "tuple") rfl G.b_tuple (by decide +kernel) rfl) pa_nil))))) (pw_or1 (pt_cmpR (op_eqD hr.units) (pv 0) (pe_tup pa_nil) (nomark _))))) (pss_one ps_never) pss_nil)
  (pss_one (ps_for PassesOwn.never rfl (pi_enumT rfl G.b_enumerate (pa_cons (pv 0) pa_nil)) (pg_tup rfl (pgs_cons (pg_name (i := 1) nd rfl (Or.inl rfl)) (pgs_cons (pg_name (i := 2) nd rfl (Or.inl rfl)) pgs_nil)))
    (pss_one (ps_if (PW.pt (pw_or (pt_cmpR op_eq (pv 1) (pe_gc rfl G.c_MOST_PLACES) (nomark _)) (pw_or (pt_not (pt_val (pe_cal C_is_between (hr.mono (by decide)) rfl pass0 (pa_cons (pv 2) (pa_cons pe_int (pa_cons (pe_op op_sub (pe_callB call_len rfl G.b_len (by decide +kernel) (pa_cons (pv 0) pa_nil)) pe_int) pa_nil)))))) (pw_or1 (pt_cmpR op_in_seq (pv 2) (pe_slice sl_tupA (pv 0) po_none (po_some (pv 1))) (by rfl)))))) (pss_one ps_never) pss_nil))))), ?_⟩
    obtain ⟨a, ps, rfl, ht, pl, q⟩ := h
    refine ⟨_, rfl, ?_⟩
    refine ⟨.ref a, .ty "tuple", .type "tuple", .type "tuple", true, rfl, .ty _, tyx_tup ht, kit_ty (by decide +kernel), true, rfl, ?_⟩
    refine iteF ⟨_, rfl, Nat.zero_le _, fun p hp => ?_⟩
    have e1 : Same H (upd H p (.tup [])) := Same.new hp
    refine ⟨.tuple ((natI ps).map PyData.int), .tuple ([].map PyData.int), .tup (Same.sqt e1 ht) (dp_ints _), .tup (SqT.of upd_same) (dp_ints []), shaped_ints _, shaped_ints [], ?_⟩
    have ne : natI ps ≠ [] := fun z => pl.ne (List.map_eq_nil_iff.mp z)
    rw [eqv_ints, decide_eq_false ne]
    refine ⟨false, rfl, iteF ?_⟩
    refine ⟨_, rfl, a, _, rfl, Same.sqt e1 ht, ?_⟩
    refine for_it walk_enumT (fun i σ H' => Same H H' ∧ σ[0]? = some (some (.ref a)) ∧ σ.length = 3) ⟨e1, rfl, rfl⟩ (fun i σ H' _ p => Same.sqt p.1 ht) (fun i x σ H1 H2 hi p y => ?_) fun σ H' p => q H' p.1
    obtain ⟨s1, h0, hl⟩ := p
    obtain ⟨T, u, v, rfl, nT, rfl, eu, ev⟩ := y
    cases eu
    obtain ⟨pp, ep, rfl⟩ := natI_get ev
    have hlt : i < ps.length := by rw [natI_len] at hi; exact hi
    have few := pl.few
    have hpp := pl.lt_ pp (List.mem_of_getElem? ep)
    have e2 : Same H (upd H1 T (.tup [.int (i : Nat), .int (pp : Int)])) := s1.trans (Same.new nT)
    have l1 : 1 < σ.length := by omega
    have g0 : ((σ.set 1 (some (.int (i : Nat)))).set 2 (some (.int (pp : Int))))[0]? = some (some (.ref a)) := by rw [List.getElem?_set_ne (by decide), List.getElem?_set_ne (by decide)]; exact h0
    have g1 : ((σ.set 1 (some (.int (i : Nat)))).set 2 (some (.int (pp : Int))))[1]? = some (some (.int (i : Nat))) := by rw [List.getElem?_set_ne (by decide), List.getElem?_set_self l1]
    have g2 : ((σ.set 1 (some (.int (i : Nat)))).set 2 (some (.int (pp : Int))))[2]? = some (some (.int (pp : Int))) := List.getElem?_set_self (by rw [List.length_set]; omega)
    refine ⟨T, _, rfl, SqT.of upd_same, rfl, _, _, rfl, ?_⟩
    refine ⟨_, _, rfl, ?_⟩
    refine ⟨rfl, ?_⟩
    refine ⟨_, g1, rfl, _, rfl, ?_⟩
    have n60 : ¬ ((i : Int) = 60) := by omega
    have dn : decide (V.int (i : Nat) = V.int 60) = false := decide_eq_false fun z => n60 (by injection z)
    rw [dn]
    refine iteF ⟨_, g2, ⟨_, g0, _, ps.length, rfl, .inr ⟨_, Same.sqt e2 ht, by rw [natI_len]⟩, _, _, rfl, rfl, ?_⟩⟩
    refine ⟨_, _, _, rfl, ?_⟩
    have hb : (0 ≤ (pp : Int) ∧ (pp : Int) ≤ (ps.length : Int) - 1) := by omega
    rw [decide_eq_true hb]
    refine ⟨true, rfl, iteF ⟨_, g2, _, g0, _, g1, _, rfl, ?_⟩⟩
    refine rSlA_by (Same.sqt e2 ht) (Nat.zero_le _) fun p1 H3 s3 e3 => ?_
    rw [natI_take ps i (Nat.le_of_lt hlt)] at e3
    refine ⟨p1, _, rfl, .inr e3, rfl, flat_ti _, ?_⟩
    have nin : (pp : Int) ∉ natI (ps.take i) := fun z => by
      obtain ⟨y, hy, e⟩ := List.mem_map.mp z
      have e' : y = pp := by
        have e3 : (y : Int) = (pp : Int) := e
        omega
      subst e'
      obtain ⟨j, hj, ej⟩ := List.mem_iff_getElem.mp hy
      have hj2 : j < i := by
        rw [List.length_take] at hj
        omega
      rw [List.getElem_take] at ej
      have z2 := (List.getElem?_eq_some_iff.mp ep)
      obtain ⟨h3, h4⟩ := z2
      have := (List.nodup_iff_pairwise_ne.mp pl.nd)
      have q2 := List.pairwise_iff_getElem.mp this j i (by omega) h3 hj2
      exact q2 (by rw [ej, h4])
    rw [not_in_ti nin]
    refine ⟨false, rfl, iteF ?_⟩
    exact ⟨e2.trans s3, g0, by rw [List.length_set, List.length_set]; exact hl⟩
/-! ### ranks_of: some list of whole numbers as long as the places -/
def spRanks (K : PySem.W.Frag) : Sp := fun vs H Q _ => ∃ (a : Addr) (ps : List Nat), vs = [.ref a] ∧ SqT K H a (ti (natI ps)) ∧ Pl ps ∧ ∀ H' q rs, Same H H' → rs.length = ps.length → H' q = some (.lst (ti rs)) → H q = none → Q (.ref q) H'
def NRanks : List Str := ["places", "found", "at", "place"]
theorem sc_ranks : FnScope NRanks ["places"] (defScope sRanksOf) := ⟨rfl, rfl, rfl, by decide +kernel, rfl, by decide +kernel, by decide +kernel⟩
theorem ok_ranks (D : Df K mg "ranks_of" sRanksOf) (G : Gd K mg) : CalE P w K mg base CX0 1 "ranks_of" (spRanks K) := by
  have nd := sc_ranks.nd
  refine D.ok sc_ranks (fun _ _ _ _ _ _ us hl => match us, hl with | [_], _ => rfl) (fun vs H Q E h => ?_) (fun f cdv A outer s H vs Q E hr h => ?_)
  · obtain ⟨a, t, rfl, _⟩ := h
    rfl
  · refine ⟨_, (pss_cons (ps_setLc (i := 1) (own := [("place", 3)]) (g := gName 3) (tt := tYes) rfl nd rfl rfl (sw_true rfl rfl rfl (by decide +kernel)) (pi_tup (pv 0)) (blkOk_by (N := NRanks) (sc := defScope sRanksOf) (by decide +kernel)) (fun _ _ _ _ _ => pg_name (i := 3) nd rfl (Or.inl rfl)) (fun _ _ _ _ _ => pts_nil) (fun _ _ _ _ _ => pe_int))
  (pss_cons (ps_for PassesOwn.never rfl (pi_enumT rfl G.b_enumerate (pa_cons (pv 0) pa_nil)) (pg_tup rfl (pgs_cons (pg_name (i := 2) nd rfl (Or.inl rfl)) (pgs_cons (pg_name (i := 3) nd rfl (Or.inl rfl)) pgs_nil)))
    (pss_one (ps_asg (pv 2) (pg_sub (pv 1) (pv 3) set_list))))
  (pss_one (ps_ret (pv 1))))), ?_⟩
    obtain ⟨a, ps, rfl, ht, pl, q⟩ := h
    have few := pl.few
    refine ⟨_, rfl, a, rfl, ⟨_, ht⟩, fun D hD => ?_⟩
    refine lc_ints walk_tup (List.replicate ps.length 0) (by rw [List.length_replicate, natI_len]) (by rw [natI_len]; omega) hD (fun H' s' => Same.sqt s' ht) (fun i Ha x Hb _ y => by rw [y.1]; exact Same.refl _) (fun i x Ha Hb v R hi hv sa y r => ?_) fun H1 s1 h1 => ?_
    · have e : v = 0 := by
        have z := List.mem_of_getElem? hv
        exact List.eq_of_mem_replicate z
      rw [← e]
      exact r Hb (Same.refl _)
    · refine ⟨_, rfl, a, _, rfl, Same.sqt s1 ht, ?_⟩
      refine for_it walk_enumT (fun i σ H' => Same H H' ∧ σ[1]? = some (some (.ref D)) ∧ σ.length = 4 ∧ ∃ rs : List Int, rs.length = ps.length ∧ H' D = some (.lst (ti rs))) ⟨s1, rfl, rfl, _, List.length_replicate, h1⟩ (fun i σ H' _ p => Same.sqt p.1 ht) (fun i x σ H1 H2 hi p y => ?_) fun σ H' p => ?_
      · obtain ⟨s1, h0, hl, rs, hrs, hDl⟩ := p
        obtain ⟨T, u, v, rfl, nT, rfl, eu, ev⟩ := y
        cases eu
        obtain ⟨pp, ep, rfl⟩ := natI_get ev
        have hpp := pl.lt_ pp (List.mem_of_getElem? ep)
        have e2 : Same H1 (upd H1 T (.tup [.int (i : Nat), .int (pp : Int)])) := Same.new nT
        have g1 : ((σ.set 2 (some (.int (i : Nat)))).set 3 (some (.int (pp : Int))))[1]? = some (some (.ref D)) := by rw [List.getElem?_set_ne (by decide), List.getElem?_set_ne (by decide)]; exact h0
        have g2 : ((σ.set 2 (some (.int (i : Nat)))).set 3 (some (.int (pp : Int))))[2]? = some (some (.int (i : Nat))) := by rw [List.getElem?_set_ne (by decide), List.getElem?_set_self (by omega)]
        have g3 : ((σ.set 2 (some (.int (i : Nat)))).set 3 (some (.int (pp : Int))))[3]? = some (some (.int (pp : Int))) := List.getElem?_set_self (by rw [List.length_set]; omega)
        refine ⟨T, _, rfl, SqT.of upd_same, rfl, _, _, rfl, ?_⟩
        refine ⟨_, _, rfl, rfl, ?_⟩
        refine ⟨_, g2, _, g1, _, g3, D, ti rs, (pp : Int), pp, rfl, rfl, e2 _ _ hDl, ?_, ?_⟩
        · rw [ti_len, hrs, ixN, if_pos (by omega), if_pos (by omega), Int.toNat_natCast]
        · refine ⟨same_lst (s1.trans e2) hD, g1, by rw [List.length_set, List.length_set]; exact hl, rs.set pp (i : Int), by rw [List.length_set]; exact hrs, ?_⟩
          rw [upd_same]
          simp [ti, List.map_set]
      · obtain ⟨s1, h0, hl, rs, hrs, hDl⟩ := p
        exact ⟨_, h0, q H' D rs s1 hrs hDl hD⟩
end
end Eo
set_option maxHeartbeats 4000000
namespace Eo
open PySem PySem.Spec PyProof.Rows L2 LamX
open C8 (pe_gc)
section
variable {P : Program} {w : World} {K : PySem.W.Frag} {mg : Str → Option Value} {base : Heap}
/-! ### next_rank: some whole number -/
def spNextRank (K : PySem.W.Frag) : Sp := fun vs H Q _ => ∃ (a : Addr) (rs : List Int) (p : Nat) (k : Str), vs = [.ref a, .int (p : Int), .str k] ∧ SqL K H a (ti rs) ∧ rs ≠ [] ∧ rs.length ≤ 60 ∧ k ∈ kinds ∧ ∀ H' i, Same H H' → Q (.int i) H'
theorem sc_nextRank : FnScope ["ranks", "place", "kind"] ["ranks", "place", "kind"] (defScope sNextRank) := ⟨rfl, rfl, rfl, by decide +kernel, rfl, by decide +kernel, by decide +kernel⟩
theorem disp_at {k : Str} (h : k ∈ kinds) (x y z : Int) : ∃ i, valV (mergeK [] [((Sum.inr ("first" : Str) : Key), V.int x), ((Sum.inr ("last" : Str) : Key), V.int y), ((Sum.inr ("ring" : Str) : Key), V.int z)]) (Sum.inr k : Key) = some (V.int i) := by
  rcases List.mem_cons.mp h with e | h
  · rw [e]; exact ⟨x, rfl⟩
  · rcases List.mem_cons.mp h with e | h
    · rw [e]; exact ⟨y, rfl⟩
    · rcases List.mem_cons.mp h with e | h
      · rw [e]; exact ⟨z, rfl⟩
      · cases h
theorem ok_nextRank (D : Df K mg "next_rank" sNextRank) (G : Gd K mg) : CalE P w K mg base CX0 1 "next_rank" (spNextRank K) := by
  refine D.ok sc_nextRank (fun _ _ _ _ _ _ us hl => match us, hl with | [_, _, _], _ => rfl) (fun vs H Q E h => ?_) (fun f cdv A outer s H vs Q E hr h => ?_)
  · obtain ⟨a, t, p, k, rfl, _⟩ := h
    rfl
  · have hun : (A.deeper (envOfC "next_rank" (defScope sNextRank) s.heap.objs.size f cdv)).units + 1 < cLine := by
      have := hr.un
      omega
    refine ⟨_, (pss_cons (ps_if (pt_cmpR op_lt (pe_op op_add (pv 1) pe_int) (pe_callB call_len rfl G.b_len (by decide +kernel) (pa_cons (pv 0) pa_nil)) (nomark _)) (pss_one (ps_ret (pe_ix ix_list (pv 0) (pe_op op_add (pv 1) pe_int) (fun _ _ => rfl)))) pss_nil)
  (pss_one (ps_ret (pe_dget hun (pe_disp (pps_cons pe_str (pe_un un_neg pe_int) (pps_cons pe_str (pe_callB call_len rfl G.b_len (by decide +kernel) (pa_cons (pv 0) pa_nil)) (pps_cons pe_str (pe_ix ix_list (pv 0) pe_int (fun _ _ => rfl)) pps_nil))) rfl rfl (by simp) (by decide)) (pv 2) (fun _ _ => rfl))))), ?_⟩
    obtain ⟨a, rs, p, k, rfl, ha, ne, few, hk, q⟩ := h
    refine ⟨_, rfl, _, _, rfl, rfl, _, rfl, _, rs.length, rfl, .inl ⟨_, ha, by rw [ti_len]⟩, _, _, rfl, rfl, decide ((p : Int) + 1 < (rs.length : Int)), rfl, ?_⟩
    by_cases h1 : (p : Int) + 1 < (rs.length : Int)
    · rw [decide_eq_true h1]
      have hp : p + 1 < rs.length := by omega
      refine iteT ⟨_, rfl, _, rfl, _, _, rfl, rfl, ?_⟩
      refine ⟨a, ti rs, _, .int (rs[p + 1]), rfl, rfl, ha, ?_, q H _ (Same.refl _)⟩
      exact atI_nat (j := p + 1) (by simp [ti, hp])
    · rw [decide_eq_false h1]
      obtain ⟨r0, rr, rfl⟩ : ∃ r0 rr, rs = r0 :: rr := by
        cases rs with
        | nil => exact absurd rfl ne
        | cons r0 rr => exact ⟨r0, rr, rfl⟩
      refine iteF ?_
      intro d hd
      have s1 : Same H (upd H d (.dK [])) := Same.new hd
      have ha1 : SqL K (upd H d (.dK [])) a (ti (r0 :: rr)) := ExtN.sql (ExtN.of s1) ha
      refine ⟨_, rfl, ?_⟩
      refine ⟨_, rfl, _, (r0 :: rr).length, rfl, .inl ⟨_, ha1, by rw [ti_len]⟩, ?_⟩
      refine ⟨_, rfl, a, ti (r0 :: rr), 0, .int r0, rfl, rfl, ha1, atI_nat (j := 0) rfl, ?_⟩
      refine ⟨upd_same, [((Sum.inr ("first" : Str) : Key), V.int _), ((Sum.inr ("last" : Str) : Key), V.int _), ((Sum.inr ("ring" : Str) : Key), V.int _)], rfl, by simp, ?_⟩
      obtain ⟨i, hi⟩ := disp_at hk (-1) ((r0 :: rr).length : Int) r0
      refine ⟨_, rfl, d, .int i, rfl, .inl ⟨_, .inr k, .inl upd_same, rfl, hi.symm⟩, q _ i ?_⟩
      rw [upd_upd]
      exact Same.new hd
/-! ### rises_of: some list -/
def spRises (K : PySem.W.Frag) : Sp := fun vs H Q _ => ∃ (a : Addr) (ps : List Nat) (k : Str), vs = [.ref a, .str k] ∧ SqT K H a (ti (natI ps)) ∧ Pl ps ∧ k ∈ kinds ∧ ∀ H' q rs, Same H H' → H' q = some (.lst (ti rs)) → H q = none → rs.length ≤ 60 → Q (.ref q) H'
def NRises : List Str := ["places", "kind", "ranks", "after", "place", "at"]
theorem sc_rises : FnScope NRises ["places", "kind"] (defScope sRisesOf) := ⟨rfl, rfl, rfl, by decide +kernel, rfl, by decide +kernel, by decide +kernel⟩
theorem ok_rises (D : Df K mg "rises_of" sRisesOf) (G : Gd K mg) (C_ranks_of : CalE P w K mg base CX0 1 "ranks_of" (spRanks K)) (C_next_rank : CalE P w K mg base CX0 1 "next_rank" (spNextRank K)) : CalE P w K mg base CX0 2 "rises_of" (spRises K) := by
  have nd := sc_rises.nd
  refine D.ok sc_rises (fun _ _ _ _ _ _ us hl => match us, hl with | [_, _], _ => rfl) (fun vs H Q E h => ?_) (fun f cdv A outer s H vs Q E hr h => ?_)
  · obtain ⟨a, p, k, rfl, _⟩ := h
    rfl
  · refine ⟨_, (pss_cons (ps_set (i := 2) nd rfl (Or.inr rfl) (pe_cal C_ranks_of (hr.mono (by decide)) rfl pass0 (pa_cons (pv 0) pa_nil)))
  (pss_cons (ps_set (i := 3) nd rfl (Or.inr rfl) (pe_lc (own := [("place", 4)]) (g := gName 4) (tt := tYes) rfl nd (pi_tup (pv 0)) (blkOk_by (N := NRises) (sc := defScope sRisesOf) (by decide +kernel)) (fun _ _ _ _ _ => pg_name (i := 4) nd rfl (Or.inl rfl)) (fun _ _ _ _ _ => pts_nil) (fun _ _ _ _ _ => (pe_cal C_next_rank (hr.mono (by decide)) rfl pass0 (pa_cons (pv 2) (pa_cons (pv 4) (pa_cons (pv 1) pa_nil)))))))
  (pss_one (ps_ret (pe_lc (own := [("at", 5)]) (g := gName 5) rfl nd (pi_range1 rfl G.b_range (pa_cons (pe_op op_sub (pe_callB call_len rfl G.b_len (by decide +kernel) (pa_cons (pv 0) pa_nil)) pe_int) pa_nil)) (blkOk_by (N := NRises) (sc := defScope sRisesOf) (by decide +kernel)) (fun _ _ _ _ _ => pg_name (i := 5) nd rfl (Or.inl rfl)) (fun _ _ _ _ _ => pts_one (pt_cmpR op_gt (pe_ix (r := rIxL K) ix_list (pv 3) (pv 5) (fun _ _ => rfl)) (pe_ix (r := rIxL K) ix_list (pv 3) (pe_op op_add (pv 5) pe_int) (fun _ _ => rfl)) (nomark _))) (fun _ _ _ _ _ => (pv 5))))))), ?_⟩
    obtain ⟨a, ps, k, rfl, ht, pl, hk, q⟩ := h
    have few := pl.few
    have zl : (1000 : Nat) ≤ sizeLine := by decide
    refine ⟨_, rfl, a, ps, rfl, ht, pl, fun H1 r rs s1 hrs hrl hrn => ?_⟩
    have ne : rs ≠ [] := fun z => by
      rw [z] at hrs
      exact pl.ne (List.length_eq_zero_iff.mp hrs.symm)
    have ht1 := Same.sqt s1 ht
    refine ⟨_, rfl, a, rfl, ⟨_, ht1⟩, fun D hD => ?_⟩
    refine lc_it walk_tup (fun i H' => Same H1 H' ∧ ∃ acc : List Int, acc.length = i ∧ H' D = some (.lst (ti acc))) ⟨same_lst (Same.refl _) hD, [], rfl, upd_same⟩ (fun i H' _ p => Same.sqt p.1 ht1) (fun i x Ha Hb hi p y => ?_) fun H2 p => ?_
    · obtain ⟨sa, acc, hl, hDl⟩ := p
      obtain ⟨e1, e2⟩ := y
      subst e1
      obtain ⟨pp, e3, rfl⟩ := natI_get e2
      refine ⟨rfl, yes_lc ?_⟩
      refine ⟨_, rfl, _, rfl, _, rfl, r, rs, pp, k, rfl, ExtN.sql (ExtN.of sa) (.inl (.inl hrl)), ne, by omega, hk, fun H3 v s3 => ?_⟩
      rw [natI_len] at hi
      refine ⟨_, s3 _ _ hDl, by rw [ti_len]; omega, same_lst (sa.trans s3) hD, acc ++ [v], by rw [List.length_append, hl]; rfl, ?_⟩
      rw [upd_same, ti_app]
      rfl
    · obtain ⟨s2, af, hl, hDl⟩ := p
      rw [natI_len] at hl
      have ht2 := Same.sqt s2 ht1
      refine ⟨_, rfl, _, ps.length, rfl, .inr ⟨_, ht2, by rw [natI_len]⟩, _, _, rfl, rfl, _, rfl, by omega, by omega, fun D2 hD2 => ?_⟩
      have en : ((ps.length : Int) - 1).toNat = ps.length - 1 := by omega
      rw [en]
      refine lc_it (walk_range (lo := 0) (n := ps.length - 1)) (fun i H' => Same H2 H' ∧ ∃ acc : List Int, acc.length ≤ i ∧ H' D2 = some (.lst (ti acc))) ⟨same_lst (Same.refl _) hD2, [], Nat.le_refl _, upd_same⟩ (fun _ _ _ _ => trivial) (fun i x Ha Hb hi p y => ?_) fun H3 p => ?_
      · obtain ⟨sa, acc, hl2, hD2l⟩ := p
        obtain ⟨e1, e2⟩ := y
        subst e1
        have e3 : x = .int (i : Int) := by rw [e2]; show V.int (0 + (i : Int)) = _; rw [Int.zero_add]
        subst e3
        have hDa : SqL K Hb D (ti af) := .inl (.inl (sa _ _ hDl))
        refine ⟨rfl, ?_⟩
        refine ⟨_, rfl, _, rfl, D, ti af, _, .int (af[i]'(by omega)), rfl, rfl, hDa, atI_nat (j := i) (by simp [ti, hl, show i < ps.length by omega]), ?_⟩
        refine ⟨_, rfl, _, rfl, _, _, rfl, rfl, ?_⟩
        refine ⟨D, ti af, _, .int (af[i + 1]'(by omega)), rfl, rfl, hDa, atI_nat (j := i + 1) (by simp [ti, hl, show i + 1 < ps.length by omega]), ?_⟩
        refine ⟨_, _, rfl, rfl, decide (af[i + 1]'(by omega) < af[i]'(by omega)), rfl, ?_⟩
        by_cases hc : af[i + 1]'(by omega) < af[i]'(by omega)
        · rw [decide_eq_true hc]
          refine iteT ⟨_, rfl, _, hD2l, by rw [ti_len]; omega, same_lst sa hD2, acc ++ [(i : Int)], by rw [List.length_append]; simp only [List.length_cons, List.length_nil]; omega, ?_⟩
          rw [upd_same, ti_app]
          rfl
        · rw [decide_eq_false hc]
          exact iteF ⟨sa, acc, by omega, hD2l⟩
      · obtain ⟨sa, acc, hl2, hD2l⟩ := p
        have sn : Same H H3 := s1.trans (s2.trans sa)
        refine q H3 D2 acc sn hD2l ?_ (by omega)
        cases e : H D2 with
        | none => rfl
        | some o =>
          have z := (s1.trans s2) _ _ e
          rw [hD2] at z
          cases z
end
end Eo
set_option maxHeartbeats 4000000
namespace Eo
open PySem PySem.Spec PyProof.Rows L2 LamX
open C8 (pe_gc)
/-- all but what stands at x stays -/
def SameE (x : Addr) (H H' : Hp) : Prop := ∀ b o, b ≠ x → H b = some o → H' b = some o
theorem SameE.of {x : Addr} {H H' : Hp} (e : Same H H') : SameE x H H' := fun b o _ h => e b o h
theorem SameE.trans {x : Addr} {H H1 H2 : Hp} (a : SameE x H H1) (b : SameE x H1 H2) : SameE x H H2 := fun c o n h => b c o n (a c o n h)
theorem SameE.upd {x : Addr} {H : Hp} {o : HO} : SameE x H (upd H x o) := fun b u n h => by rw [upd_ne n]; exact h
theorem SameE.new {x : Addr} {H H' : Hp} {o : HO} (e : SameE x (L2.upd H x o) H') (hx : H x = none) : Same H H' := fun b u h => by
  have n : b ≠ x := ne_of_none h hx
  exact e b u n (by rw [upd_ne n]; exact h)
theorem sqt_ins {K : PySem.W.Frag} {x C b : Addr} {dx : Addr} {fs : List (Str × V)} {ys : List V} {H H' : Hp} (e : SameE x H H') (hx : H x = some (.ins C dx fs)) (h : SqT K H b ys) : SqT K H' b ys := by
  have ne : ∀ o, H b = some o → (∀ l, o ≠ .ins C dx l) → b ≠ x := fun o e n z => by
    rw [z, hx] at e
    exact n fs (Option.some.inj e).symm
  rcases h with (h | ⟨o, h⟩) | h
  · exact .inl (.inl (e _ _ (ne _ h fun l z => by cases z) h))
  · exact .inl (.inr ⟨o, e _ _ (ne _ h fun l z => by cases z) h⟩)
  · exact .inr h
theorem two_le (a b : V) : [a, b].length ≤ sizeLine := by
  show 2 ≤ sizeLine
  decide
theorem putF_n {f : Str} {v : V} {n : Nat} : ∀ {fs : List (Str × V)}, fs.length ≤ n → (putF f v fs).length ≤ n + 1
  | [], _ => by simp [putF]
  | (g, x) :: r, h => by
    rw [putF]
    split
    · simp only [List.length_cons] at h ⊢
      omega
    · cases n with
      | zero => simp at h
      | succ m =>
        have z := putF_n (f := f) (v := v) (n := m) (fs := r) (by simpa using h)
        simp only [List.length_cons]
        omega
structure GO (K : PySem.W.Frag) (mg : Str → Option Value) (C : Addr) : Prop where
  gC : mg "Order" = some (.ref C)
  cls : Cls K C
  n_row : NoAttr K C "row"
  n_style : NoAttr K C "style"
  n_standing : NoAttr K C "standing"
  n_steep : NoAttr K C "steep"
  init : ∃ f fd, FnP K "__init__" "Order.__init__" sInit f fd ∧ Mk K C f
  prop : ∃ p g fd, PropOf K C "places" p g ∧ FnP K "places" "Order.places" sPlaces g fd
theorem placesL_pl {k : Str} {t : List Int} (tx : Tx t) : Pl (placesL k t) := by
  have l := placesL_len k t
  refine ⟨fun z => ?_, by rw [l]; exact tx.few, fun p hp => by rw [l]; exact placesL_mem.mp hp, ?_⟩
  · rw [z] at l
    exact tx.ne (List.length_eq_zero_iff.mp l.symm)
  · unfold placesL
    exact (List.mergeSort_perm _ _).nodup_iff.mpr List.nodup_range
section
variable {P : Program} {w : World} {K : PySem.W.Frag} {mg : Str → Option Value} {base : Heap}
/-! ### Order.__init__ -/
def spInit (K : PySem.W.Frag) (C : Addr) : Sp := fun vs H Q _ => ∃ (x a dx : Addr) (ps : List Nat) (k : Str), vs = [.ref x, .ref a, .str k] ∧ H x = some (.ins C dx []) ∧ SqT K H a (ti (natI ps)) ∧ Pl ps ∧ k ∈ kinds ∧
  ∀ H' fs, SameE x H H' → H' x = some (.ins C dx fs) → fs.lookup ("row" : Str) = some (.ref a) → Q .non H'
theorem sc_init : FnScope ["self", "places", "kind"] ["self", "places", "kind"] (defScope sInit) := ⟨rfl, rfl, rfl, by decide +kernel, rfl, by decide +kernel, by decide +kernel⟩
theorem ok_init {C f : Addr} {fd : FuncData} (F : FnP K "__init__" "Order.__init__" sInit f fd) (GO1 : GO K mg C) (C_check_places : CalE P w K mg base CX0 3 "check_places" (spCheckPlaces K)) (C_check_kind : CalE P w K mg base CX0 1 "check_kind" spCheckKind)
    (C_ranks_of : CalE P w K mg base CX0 1 "ranks_of" (spRanks K)) (C_rises_of : CalE P w K mg base CX0 2 "rises_of" (spRises K)) : FnOk P w K mg base CX0 4 f fd ["self", "places", "kind"] (spInit K C) := by
  refine F.ok sc_init (fun vs H Q E h => ?_) (fun cdv A outer s H vs Q E hr h => ?_)
  · obtain ⟨x, a, dx, ps, k, rfl, _⟩ := h
    rfl
  · refine ⟨_, PSs.nox (pss_cons (ps_expr (pe_cal C_check_places (hr.mono (by decide)) rfl pass0 (pa_cons (pv 1) pa_nil)))
  (pss_cons (ps_expr (pe_cal C_check_kind (hr.mono (by decide)) rfl pass0 (pa_cons (pv 2) pa_nil)))
  (pss_cons (ps_asg (pe_tup (pa_cons (pv 1) (pa_cons (pv 2) pa_nil))) (pg_tup rfl (pgs_cons (pg_fld (pv 0)) (pgs_cons (pg_fld (pv 0)) pgs_nil))))
  (pss_one (ps_asg (pe_tup (pa_cons (pe_cal C_ranks_of (hr.mono (by decide)) rfl pass0 (pa_cons (pv 1) pa_nil)) (pa_cons (pe_cal C_rises_of (hr.mono (by decide)) rfl pass0 (pa_cons (pv 1) (pa_cons (pv 2) pa_nil))) pa_nil))) (pg_tup rfl (pgs_cons (pg_fld (pv 0)) (pgs_cons (pg_fld (pv 0)) pgs_nil)))))))), ?_⟩
    obtain ⟨x, a, dx, ps, k, rfl, hx, ha, pl, hk, q⟩ := h
    refine ⟨_, rfl, a, ps, rfl, ha, pl, fun H1 s1 => ?_⟩
    refine ⟨_, rfl, k, rfl, hk, ?_⟩
    have hx1 := s1 _ _ hx
    refine ⟨_, rfl, _, rfl, two_le _ _, fun T1 hT1 => ?_⟩
    have sT : Same H1 (upd H1 T1 (.tup [.ref a, .str k])) := Same.new hT1
    have hx2 := sT _ _ hx1
    refine ⟨T1, _, rfl, SqT.of upd_same, rfl, _, _, rfl, ?_⟩
    refine ⟨_, rfl, x, C, dx, [], rfl, hx2, GO1.cls, GO1.n_row, by decide, ?_⟩
    refine ⟨_, _, rfl, ?_⟩
    refine ⟨_, rfl, x, C, dx, _, rfl, upd_same, GO1.cls, GO1.n_style, Nat.lt_of_le_of_lt (putF_n (Nat.zero_le 0)) (by decide), ?_⟩
    refine ⟨rfl, ?_⟩
    have se4 : SameE x H (upd (upd (upd H1 T1 (.tup [.ref a, .str k])) x (.ins C dx (putF "row" (.ref a) []))) x (.ins C dx (putF "style" (.str k) (putF "row" (.ref a) [])))) := ((SameE.of (s1.trans sT)).trans SameE.upd).trans SameE.upd
    have hx4 : (upd (upd (upd H1 T1 (.tup [.ref a, .str k])) x (.ins C dx (putF "row" (.ref a) []))) x (.ins C dx (putF "style" (.str k) (putF "row" (.ref a) [])))) x = some (.ins C dx (putF "style" (.str k) (putF "row" (.ref a) []))) := upd_same
    revert se4 hx4
    generalize upd (upd (upd H1 T1 (.tup [.ref a, .str k])) x (.ins C dx (putF "row" (.ref a) []))) x (.ins C dx (putF "style" (.str k) (putF "row" (.ref a) []))) = H4
    intro se4 hx4
    have ha4 := sqt_ins se4 hx ha
    refine ⟨_, rfl, a, ps, rfl, ha4, pl, fun H5 r1 rs1 s5 _ _ _ => ?_⟩
    refine ⟨_, rfl, _, rfl, a, ps, k, rfl, Same.sqt s5 ha4, pl, hk, fun H6 r2 rs2 s6 _ _ _ => ?_⟩
    refine ⟨two_le _ _, fun T2 hT2 => ?_⟩
    have s7 : Same H6 (upd H6 T2 (.tup [.ref r1, .ref r2])) := Same.new hT2
    have hx7 := s7 _ _ (s6 _ _ (s5 _ _ hx4))
    refine ⟨T2, _, rfl, SqT.of upd_same, rfl, _, _, rfl, ?_⟩
    refine ⟨_, rfl, x, C, dx, _, rfl, hx7, GO1.cls, GO1.n_standing, Nat.lt_of_le_of_lt (putF_n (putF_n (Nat.zero_le 0))) (by decide), ?_⟩
    refine ⟨_, _, rfl, ?_⟩
    refine ⟨_, rfl, x, C, dx, _, rfl, upd_same, GO1.cls, GO1.n_steep, Nat.lt_of_le_of_lt (putF_n (putF_n (putF_n (Nat.zero_le 0)))) (by decide), ?_⟩
    refine ⟨rfl, ?_⟩
    refine q _ _ ((se4.trans (SameE.of ((s5.trans s6).trans s7))).trans (SameE.upd.trans SameE.upd)) upd_same ?_
    rw [lookup_putF, if_neg (by decide), lookup_putF, if_neg (by decide), lookup_putF, if_neg (by decide), lookup_putF, if_pos rfl]
/-! ### order_of -/
def spOrderOf (K : PySem.W.Frag) (T : List (Addr × Str)) (C : Addr) : Sp := fun vs H Q _ => ∃ (a : Addr) (t : List Int) (k : Str), vs = [.ref a, .str k] ∧ SqT K H a (ti t) ∧ Tx t ∧ k ∈ kinds ∧ ¬ rep k t ∧ Tabs T H ∧
  ∀ H', ExtN H H' → Tabs T H' → ∀ x p dx fs, H' x = some (.ins C dx fs) → fs.lookup ("row" : Str) = some (.ref p) → SqT K H' p (ti (natI (placesL k t))) → Q (.ref x) H'
theorem sc_orderOf : FnScope ["text", "kind"] ["text", "kind"] (defScope sOrderOf) := ⟨rfl, rfl, rfl, by decide +kernel, rfl, by decide +kernel, by decide +kernel⟩
theorem ok_orderOf {T : List (Addr × Str)} {C CR f : Addr} {fd : FuncData} (D : Df K mg "order_of" sOrderOf) (G : Gd K mg) (GO1 : GO K mg C) (M : Mk K C f) (FI : FnP K "__init__" "Order.__init__" sInit f fd) (F : FnOk P w K mg base CX0 4 f fd ["self", "places", "kind"] (spInit K C))
    (C_check_text : CalE P w K mg base CX0 4 "check_text" (spCheckText K)) (C_check_kind : CalE P w K mg base CX0 1 "check_kind" spCheckKind) (C_sorted_places : CalE P w K mg base (L2.CX P w) 2 "sorted_places" (spSorted K T CR)) : CalE P w K mg base CX0 6 "order_of" (spOrderOf K T C) := by
  refine D.ok sc_orderOf (fun _ _ _ _ _ _ us hl => match us, hl with | [_, _], _ => rfl) (fun vs H Q E h => ?_) (fun f2 cdv A outer s H vs Q E hr h => ?_)
  · obtain ⟨a, t, k, rfl, _⟩ := h
    rfl
  · refine ⟨_, (pss_cons (ps_expr (pe_cal C_check_text (hr.mono (by decide)) rfl pass0 (pa_cons (pv 0) pa_nil)))
  (pss_cons (ps_expr (pe_cal C_check_kind (hr.mono (by decide)) rfl pass0 (pa_cons (pv 1) pa_nil)))
  (pss_one (ps_ret (pe_make M F hr rfl GO1.gC (FI.bindsN (fun _ _ _ _ _ _ us hl => match us, hl with | [_, _, _], _ => rfl)) .nil pass0 (pa_cons (pe_callTy call_tuple_of rfl G.b_tuple (by decide +kernel) (pa_cons (pe_cal C_sorted_places (hr.mono (by decide)) rfl passL (pa_cons (pv 0) (pa_cons (pv 1) pa_nil))) pa_nil)) (pa_cons (pv 1) pa_nil))))))), ?_⟩
    obtain ⟨a, t, k, rfl, ht, tx, hk, nr, hT, q⟩ := h
    refine ⟨_, rfl, a, t, rfl, ht, tx, fun H1 s1 => ?_⟩
    refine ⟨_, rfl, k, rfl, hk, ?_⟩
    have ht1 := Same.sqt s1 ht
    refine ⟨_, rfl, _, rfl, a, t, k, rfl, ht1, tx, hk, hT.ext s1, fun H2 eN T2 => ⟨fun r => absurd r nr, fun _ p hp => ?_⟩⟩
    refine ⟨p, _, rfl, .inl ⟨.inl (.inl hp), fun l hl => ?_⟩⟩
    refine ⟨_, rfl, ?_⟩
    intro x dx hx hdx hne
    have s3 : Same H2 (upd H2 l (.tup (ti (natI (placesL k t))))) := Same.new hl
    have hx2 : (upd (upd H2 l (.tup (ti (natI (placesL k t))))) dx (.own x)) x = none := by rw [upd_ne (Ne.symm hne)]; exact hx
    have s4 : Same (upd H2 l (.tup (ti (natI (placesL k t))))) (upd (upd H2 l (.tup (ti (natI (placesL k t))))) dx (.own x)) := Same.new hdx
    refine ⟨x, l, dx, placesL k t, k, rfl, upd_same, ?_, placesL_pl tx, hk, fun H' fs se hx' hfs => ⟨rfl, ?_⟩⟩
    · exact Same.sqt (Same.new hx2) (Same.sqt s4 (SqT.of upd_same))
    · have s5 := s4.trans (SameE.new se hx2)
      exact q H' (ExtN.trans (ExtN.of s1) (ExtN.trans eN (ExtN.of (s3.trans s5)))) ((T2.ext s3).ext s5) x l dx fs hx' hfs (Same.sqt s5 (SqT.of upd_same))
/-! ### Order.places -/
theorem ok_places {C g : Addr} {fd : FuncData} (F : FnP K "places" "Order.places" sPlaces g fd) (GO1 : GO K mg C) : FnOk P w K mg base CX0 1 g fd ["self"] (getSp C "row") := by
  obtain ⟨oc, od, dV, kV, doc, pm, an, cdv, ct, osl, rfl, lk, hcd, _, _⟩ := F.ex
  exact fn_getter (N := ["self"]) lk hcd ⟨rfl, rfl, rfl, by decide +kernel, rfl, by decide +kernel, by decide +kernel⟩ rfl rfl GO1.cls GO1.n_row
end
end Eo
set_option maxHeartbeats 4000000
namespace Eo
open PySem PySem.Spec PyProof.Rows L2 LamX
open C8 (pe_gc)
theorem vint_eq (a b : Int) : decide (V.int a = V.int b) = decide (a = b) := by
  by_cases h : a = b
  · rw [h]; simp
  · rw [decide_eq_false h, decide_eq_false fun z => h (by injection z)]
/-- what a column may hold -/
structure ColOk (c : List Int) : Prop where
  ne : c ≠ []
  few : c.length ≤ 61
  let_ : ∀ x ∈ c, Let x ∨ x = -1
/-! ### the steps -/
def wrt (k : Str) (x : Int) : Int := if x = -1 ∧ k = "last" then PASTI else x
def wAt (k : Str) (c : List Int) (i : Nat) : Int := wrt k (c.getD i 0)
def ordL (k : Str) (c : List Int) : List Nat := (List.range c.length).mergeSort fun a b => decide (wAt k c a < wAt k c b ∨ (wAt k c a = wAt k c b ∧ a ≤ b))
def stepsL (k : Str) (c : List Int) : List Nat := (List.range c.length).map fun a => (ordL k c).idxOf a
theorem ordL_len (k : Str) (c : List Int) : (ordL k c).length = c.length := by
  unfold ordL
  rw [List.length_mergeSort, List.length_range]
theorem ordL_mem {k : Str} {c : List Int} {a : Nat} : a ∈ ordL k c ↔ a < c.length := by
  unfold ordL
  rw [List.mem_mergeSort, List.mem_range]
theorem ordL_nd (k : Str) (c : List Int) : (ordL k c).Nodup := by
  unfold ordL
  exact (List.mergeSort_perm _ _).nodup_iff.mpr List.nodup_range
theorem stepsL_len (k : Str) (c : List Int) : (stepsL k c).length = c.length := by
  unfold stepsL
  rw [List.length_map, List.length_range]
/-- the found ones, i of them written -/
def fndL (k : Str) (c : List Int) (i : Nat) : List Nat := (List.range c.length).map fun a => if (ordL k c).idxOf a < i then (ordL k c).idxOf a else 0
theorem fndL_zero (k : Str) (c : List Int) : fndL k c 0 = List.replicate c.length 0 := by
  unfold fndL
  refine List.ext_getElem (by simp) fun j h1 h2 => ?_
  simp
theorem fndL_len (k : Str) (c : List Int) (i : Nat) : (fndL k c i).length = c.length := by
  unfold fndL
  rw [List.length_map, List.length_range]
theorem fndL_all (k : Str) (c : List Int) : fndL k c c.length = stepsL k c := by
  unfold fndL stepsL
  refine List.map_congr_left fun a ha => ?_
  have h : (ordL k c).idxOf a < c.length := by
    have := List.idxOf_lt_length_of_mem (ordL_mem.mpr (List.mem_range.mp ha) : a ∈ ordL k c)
    rw [ordL_len] at this
    exact this
  rw [if_pos h]
theorem fndL_set {k : Str} {c : List Int} {i o : Nat} (h : (ordL k c)[i]? = some o) : (fndL k c i).set o i = fndL k c (i + 1) := by
  obtain ⟨hi, ho⟩ := List.getElem?_eq_some_iff.mp h
  have eo : (ordL k c).idxOf o = i := by
    rw [← ho]
    exact (ordL_nd k c).idxOf_getElem i hi
  refine List.ext_getElem (by rw [List.length_set, fndL_len, fndL_len]) fun j h1 h2 => ?_
  have hj : j < c.length := by
    rw [fndL_len] at h2
    exact h2
  rw [List.getElem_set]
  simp only [fndL, List.getElem_map, List.getElem_range]
  by_cases e : o = j
  · rw [if_pos e, ← e, eo, if_pos (Nat.lt_succ_self i)]
  · rw [if_neg e]
    have ne : (ordL k c).idxOf j ≠ i := fun z => by
      have hm : j ∈ ordL k c := ordL_mem.mpr hj
      have h3 := List.idxOf_lt_length_of_mem hm
      have h4 := List.getElem_idxOf h3
      have h5 : (ordL k c)[(ordL k c).idxOf j]? = some j := by
        rw [List.getElem?_eq_getElem h3, h4]
      rw [z, h] at h5
      exact e (Option.some.inj h5)
    by_cases q : (ordL k c).idxOf j < i
    · rw [if_pos q, if_pos (by omega)]
    · rw [if_neg q, if_neg (by omega)]
/-- a ring of steps -/
structure Cyc (st : List Nat) (at_ : Nat) (c : List Nat) : Prop where
  pos : 0 < c.length
  hd : c[0]? = some at_
  next : ∀ j x y, c[j]? = some x → c[j + 1]? = some y → st[x]? = some y ∧ y ≠ at_
  last : ∀ x, c[c.length - 1]? = some x → st[x]? = some at_
section
variable {P : Program} {w : World} {K : PySem.W.Frag} {mg : Str → Option Value} {base : Heap}
/-! ### check_column -/
def spCheckColumn (K : PySem.W.Frag) : Sp := fun vs H Q _ => ∃ (a : Addr) (c : List Int), vs = [.ref a] ∧ SqT K H a (ti c) ∧ ColOk c ∧ ∀ H', Same H H' → Q .non H'
theorem sc_checkColumn : FnScope ["column", "at", "letter"] ["column"] (defScope sCheckColumn) := ⟨rfl, rfl, rfl, by decide +kernel, rfl, by decide +kernel, by decide +kernel⟩
theorem ok_checkColumn (D : Df K mg "check_column" sCheckColumn) (G : Gd K mg) (C_is_letter : CalE P w K mg base CX0 3 "is_letter" spIsLetter) : CalE P w K mg base CX0 4 "check_column" (spCheckColumn K) := by
  have nd := sc_checkColumn.nd
  refine D.ok sc_checkColumn (fun _ _ _ _ _ _ us hl => match us, hl with | [_], _ => rfl) (fun vs H Q E h => ?_) (fun f cdv A outer s H vs Q E hr h => ?_)
  · obtain ⟨a, t, rfl, _⟩ := h
    rfl
  · refine ⟨_, (pss_cons (ps_if (PW.pt (pw_or (pt_not (pt_val (pe_callB call_isi rfl G.b_isinstance (by decide +kernel) (pa_cons (pv 0) (pa_cons (pe_bltn (v := .ty "tuple") rfl G.b_tuple (by decide +kernel) rfl) pa_nil))))) (pw_or1 (pt_cmpR (op_eqD hr.units) (pv 0) (pe_tup pa_nil) (nomark _))))) (pss_one ps_never) pss_nil)
  (pss_one (ps_for PassesOwn.never rfl (pi_enumT rfl G.b_enumerate (pa_cons (pv 0) pa_nil)) (pg_tup rfl (pgs_cons (pg_name (i := 1) nd rfl (Or.inl rfl)) (pgs_cons (pg_name (i := 2) nd rfl (Or.inl rfl)) pgs_nil)))
    (pss_one (ps_if (PW.pt (pw_or (pt_cmpR op_gt (pv 1) (pe_gc rfl G.c_MOST_PLACES) (nomark _)) (pw_or1 (pt_not (PW.pt (pw_or (pt_val (pe_cal C_is_letter (hr.mono (by decide)) rfl pass0 (pa_cons (pv 2) pa_nil))) (pw_or1 (PW.pt (pw_and (pt_cmpR op_eq (pv 2) (pe_gc rfl G.c_MARK) (nomark _)) (pw_and1 (pt_not (pt_val (pe_callB call_isi rfl G.b_isinstance (by decide +kernel) (pa_cons (pv 2) (pa_cons (pe_bltn (v := .ty "bool") rfl G.b_bool (by decide +kernel) rfl) pa_nil))))))))))))))) (pss_one ps_never) pss_nil))))), ?_⟩
    obtain ⟨a, c, rfl, ht, ck, q⟩ := h
    refine ⟨_, rfl, ?_⟩
    refine ⟨.ref a, .ty "tuple", .type "tuple", .type "tuple", true, rfl, .ty _, tyx_tup ht, kit_ty (by decide +kernel), true, rfl, ?_⟩
    refine iteF ⟨_, rfl, Nat.zero_le _, fun p hp => ?_⟩
    have e1 : Same H (upd H p (.tup [])) := Same.new hp
    refine ⟨.tuple (c.map PyData.int), .tuple ([].map PyData.int), .tup (Same.sqt e1 ht) (dp_ints _), .tup (SqT.of upd_same) (dp_ints []), shaped_ints _, shaped_ints [], ?_⟩
    rw [eqv_ints, decide_eq_false ck.ne]
    refine ⟨false, rfl, iteF ?_⟩
    refine ⟨_, rfl, a, _, rfl, Same.sqt e1 ht, ?_⟩
    refine for_it walk_enumT (fun i σ H' => Same H H' ∧ σ[0]? = some (some (.ref a)) ∧ σ.length = 3) ⟨e1, rfl, rfl⟩ (fun i σ H' _ p => Same.sqt p.1 ht) (fun i x σ H1 H2 hi p y => ?_) fun σ H' p => q H' p.1
    obtain ⟨s1, h0, hl⟩ := p
    obtain ⟨T, u, v, rfl, nT, rfl, eu, ev⟩ := y
    cases eu
    have hlt : i < c.length := by rw [ti_len] at hi; exact hi
    have hv : v = .int c[i] := by
      have z : (ti c)[i]? = some (.int c[i]) := by simp [hlt]
      have ev2 : (ti c)[i]? = some v := ev
      rw [z] at ev2
      exact (Option.some.inj ev2).symm
    subst hv
    have few := ck.few
    have e2 : Same H (upd H1 T (.tup [.int (i : Nat), .int c[i]])) := s1.trans (Same.new nT)
    have l1 : 1 < σ.length := by omega
    have g0 : ((σ.set 1 (some (.int (i : Nat)))).set 2 (some (.int c[i])))[0]? = some (some (.ref a)) := by rw [List.getElem?_set_ne (by decide), List.getElem?_set_ne (by decide)]; exact h0
    have g1 : ((σ.set 1 (some (.int (i : Nat)))).set 2 (some (.int c[i])))[1]? = some (some (.int (i : Nat))) := by rw [List.getElem?_set_ne (by decide), List.getElem?_set_self l1]
    have g2 : ((σ.set 1 (some (.int (i : Nat)))).set 2 (some (.int c[i])))[2]? = some (some (.int c[i])) := List.getElem?_set_self (by rw [List.length_set]; omega)
    refine ⟨T, _, rfl, SqT.of upd_same, rfl, _, _, rfl, ?_⟩
    refine ⟨_, _, rfl, ?_⟩
    refine ⟨rfl, ?_⟩
    refine ⟨_, g1, _, _, rfl, rfl, decide ((60 : Int) < (i : Int)), rfl, ?_⟩
    rw [decide_eq_false (show ¬ (60 : Int) < (i : Int) by omega)]
    refine iteF ⟨_, g2, _, rfl, ?_⟩
    have fin : Same H (upd H1 T (.tup [.int (i : Nat), .int c[i]])) ∧ ((σ.set 1 (some (.int (i : Nat)))).set 2 (some (.int c[i])))[0]? = some (some (.ref a)) ∧ ((σ.set 1 (some (.int (i : Nat)))).set 2 (some (.int c[i]))).length = 3 := ⟨e2, g0, by rw [List.length_set, List.length_set]; exact hl⟩
    rcases ck.let_ c[i] (List.getElem_mem hlt) with lt1 | lt1
    · rw [decide_eq_true (show 0 ≤ c[i] ∧ c[i] ≤ 10 ^ 18 from lt1)]
      exact ⟨true, rfl, iteT (iteF fin)⟩
    · rw [decide_eq_false (show ¬ (0 ≤ c[i] ∧ c[i] ≤ 10 ^ 18) by omega)]
      refine ⟨false, rfl, iteF ⟨_, g2, rfl, decide (c[i] = -1), by rw [vint_eq], ?_⟩⟩
      rw [decide_eq_true lt1]
      refine iteT ⟨_, g2, .int c[i], .ty "bool", .type "int", .type "bool", false, rfl, .ty _, .base (.int _), kit_ty (by decide +kernel), false, rfl, ?_⟩
      exact iteF fin
theorem DfC.ok {x : Str} {st : Stmt} {c : Addr} {N ps : List Str} {k : Nat} {sp : Sp} (D : DfC K mg x st c) (S : FnScope N ps (defScope st)) (B : BindT x st ps) (len : ∀ vs H Q E, sp vs H Q E → vs.length = ps.length)
    (hbody : ∀ (f : Addr) (A : Around) (outer : List Env) (s : Shared) (H : Hp) (vs : List V) (Q : VK) (E : XK), Room k (A.deeper (envOfC x (defScope st) s.heap.objs.size f (.ref c))) → sp vs H Q E →
      ∃ t, PSs (cxOf CX0 P w K mg base N x (defScope st) f (.ref c) A outer s H E).nox (defBody st) t ∧ t { nx := fun _ H' => Q .non H', rt := Q } (start N vs) H) : CalE P w K mg base CX0 (k + 1) x sp :=
  D.okX S B len fun f A outer s H vs Q E hr h => by
    obtain ⟨t, h1, h2⟩ := hbody f A outer s H vs Q E hr h
    exact ⟨t, h1.nox, h2⟩
/-! ### steps_of -/
def qSteps : Str := "steps_of.<locals>.<lambda>"
abbrev stepsBody : Expr := lamBody (keyOf (lastS (defBody sStepsOf) 1))
abbrev stepsScope : Scope := lamScope (keyOf (lastS (defBody sStepsOf) 1))
def kP (W : Nat → Int) (i : Int) : PyData := .tuple [.int (W i.toNat), .int i]
theorem kP_depth (W : Nat → Int) (i : Int) : (kP W i).depth ≤ 8 := by
  simp only [kP, PyData.depth, PyData.depthAll]
  decide
theorem kP_alike (W : Nat → Int) (ns : List Int) : PySem.W.AllAlike (ns.map (kP W)) := PySem.W.AllAlike.of fun b b' => by
  simp [kP, PySem.W.alike, PySem.W.alikeAll]
theorem kP_sortable (W : Nat → Int) (ns : List Int) : PySem.W.Sortable (ns.map (kP W)) := PySem.W.Sortable.tuples fun b => ⟨_, _, rfl⟩
theorem sort_natP (W : Nat → Int) (l : List Nat) : (natI l).mergeSort (PySem.W.dataLe false (kP W)) = natI (l.mergeSort fun a b => decide (W a < W b ∨ (W a = W b ∧ a ≤ b))) := by
  have e : PySem.W.dataLe false (kP W) = fun p q => decide (W p.toNat < W q.toNat ∨ (W p.toNat = W q.toNat ∧ p ≤ q)) := PySem.W.dataLe_ii (fun p : Int => W p.toNat) fun p => p
  rw [e]
  unfold natI
  rw [List.map_mergeSort]
  intro a _ b _
  simp
def spSteps (K : PySem.W.Frag) (T : List (Addr × Str)) : Sp := fun vs H Q _ => ∃ (a : Addr) (c : List Int) (k : Str), vs = [.ref a, .str k] ∧ SqT K H a (ti c) ∧ ColOk c ∧ k ∈ kinds ∧ Tabs T H ∧
  ∀ H', ExtN H H' → Tabs T H' → ∀ q, H' q = some (.lst (ti (natI (stepsL k c)))) → Q (.ref q) H'
def NSteps : List Str := ["column", "kind", "worths", "order", "found", "to", "at", "letter"]
theorem sc_steps : FnScope NSteps ["column", "kind"] (defScope sStepsOf) := ⟨rfl, rfl, rfl, by decide +kernel, rfl, by decide +kernel, by decide +kernel⟩
theorem ok_steps {T : List (Addr × Str)} {c0 tP : Addr} (D : DfC K mg "steps_of" sStepsOf c0) (G : Gd K mg) (TB : TabB base mg c0 tP) (hmT : (tP, qSteps) ∈ T) (hu : ∀ q ∈ T, q.1 = tP → q.2 = qSteps) : CalE P w K mg base CX0 2 "steps_of" (spSteps K T) := by
  have nd := sc_steps.nd
  refine D.ok sc_steps (fun _ _ _ _ _ _ us hl => match us, hl with | [_, _], _ => rfl) (fun vs H Q E h => ?_) (fun f A outer s H vs Q E hr h => ?_)
  · obtain ⟨a, c, k, rfl, _⟩ := h
    rfl
  · refine ⟨_, (pss_cons (ps_set (i := 2) nd rfl (Or.inr rfl) (pe_lc (own := [("letter", 7)]) (g := gName 7) (tt := tYes) rfl nd (pi_tup (pv 0)) (blkOk_by (N := NSteps) (sc := defScope sStepsOf) (by decide +kernel)) (fun _ _ _ _ _ => pg_name (i := 7) nd rfl (Or.inl rfl)) (fun _ _ _ _ _ => pts_nil) (fun _ _ _ _ _ => (pe_ifExp (PW.pt (pw_and (pt_cmpR op_eq (pv 7) (pe_gc rfl G.c_MARK) (nomark _)) (pw_and1 (pt_cmpR op_eq (pv 1) pe_str (nomark _))))) (pe_gc rfl G.c_PAST) (pv 7)))))
  (pss_cons (ps_set (i := 3) nd rfl (Or.inl rfl) (pe_sortLam (T := T) (j := 2) (n1 := "worths") (x := "at") (k := 1) rfl G.b_sorted (pa_cons (pe_listRg rfl rfl G.b_list (prg_1 rfl G.b_range (pe_callB call_len rfl G.b_len (by decide +kernel) (pa_cons (pv 0) pa_nil)))) pa_nil) ⟨rfl, rfl, rfl, by decide +kernel, rfl, fun _ _ _ _ _ _ => rfl⟩ rfl (free_by (sc := defScope sStepsOf) (by decide +kernel)) (by decide +kernel) rfl TB rfl hmT hu hr))
  (pss_cons (ps_setLc (i := 4) (own := [("at", 6)]) (g := gName 6) (tt := tYes) rfl nd rfl rfl (sw_true rfl rfl rfl (by decide +kernel)) (pi_list (pv 3)) (blkOk_by (N := NSteps) (sc := defScope sStepsOf) (by decide +kernel)) (fun _ _ _ _ _ => pg_name (i := 6) nd rfl (Or.inl rfl)) (fun _ _ _ _ _ => pts_nil) (fun _ _ _ _ _ => pe_int))
  (pss_cons (ps_for PassesOwn.never rfl (pi_enum rfl G.b_enumerate (pa_cons (pv 3) pa_nil)) (pg_tup rfl (pgs_cons (pg_name (i := 5) nd rfl (Or.inl rfl)) (pgs_cons (pg_name (i := 6) nd rfl (Or.inl rfl)) pgs_nil)))
    (pss_one (ps_asg (pv 5) (pg_sub (pv 4) (pv 6) set_list))))
  (pss_one (ps_ret (pv 4))))))), ?_⟩
    obtain ⟨a, c, k, rfl, ht, ck, hk, hT, q⟩ := h
    have few := ck.few
    have zl : (1000 : Nat) ≤ sizeLine := by decide
    refine ⟨_, rfl, a, rfl, ⟨_, ht⟩, fun D hD => ?_⟩
    refine lc_ints walk_tup (c.map (wrt k)) (by rw [List.length_map, ti_len]) (by rw [ti_len]; omega) hD (fun H' s' => Same.sqt s' ht) (fun i Ha x Hb _ y => by rw [y.1]; exact Same.refl _) (fun i x Ha Hb v R hi hv sa y r => ?_) fun H1 s1 h1 => ?_
    · obtain ⟨e1, e2⟩ := y
      subst e1
      rw [ti_len] at hi
      have e3 : x = .int c[i] := by
        have z : (ti c)[i]? = some (.int c[i]) := by simp [hi]
        rw [z] at e2
        exact (Option.some.inj e2).symm
      subst e3
      have e4 : v = wrt k c[i] := by
        have z : (c.map (wrt k))[i]? = some (wrt k c[i]) := by simp [hi]
        rw [z] at hv
        exact (Option.some.inj hv).symm
      refine ⟨_, rfl, rfl, decide (c[i] = -1), by rw [vint_eq], ?_⟩
      by_cases h1 : c[i] = -1
      · rw [decide_eq_true h1]
        refine iteT ⟨_, rfl, rfl, decide (k = "last"), by rw [vstr_eq], ?_⟩
        by_cases h2 : k = "last"
        · rw [decide_eq_true h2]
          have e : v = PASTI := by rw [e4, wrt, if_pos ⟨h1, h2⟩]
          rw [e] at r
          exact iteT (r Hb (Same.refl _))
        · rw [decide_eq_false h2]
          have e : v = c[i] := by rw [e4, wrt, if_neg fun z => h2 z.2]
          rw [e] at r
          exact iteF ⟨_, rfl, r Hb (Same.refl _)⟩
      · rw [decide_eq_false h1]
        have e : v = c[i] := by rw [e4, wrt, if_neg fun z => h1 z.1]
        rw [e] at r
        exact iteF (iteF ⟨_, rfl, r Hb (Same.refl _)⟩)
    · have ht1 := Same.sqt s1 ht
      refine ⟨_, rfl, _, c.length, rfl, .inr ⟨_, ht1, by rw [ti_len]⟩, _, rfl, RgOk.of_le (by omega) (by omega) (by omega) (by omega), fun p hp => ?_⟩
      have sp : Same H1 (upd H1 p (.lst (rgV 0 (c.length : Int)))) := Same.new hp
      refine ⟨p, D, natI (List.range c.length), kP (wAt k c), rfl, .inl (.inl (by rw [upd_same, rgV_nat])), (hT.ext s1).ext sp, rfl, kP_alike _ _, kP_sortable _ _, fun i _ => kP_depth _ i, fun H2 eN T2 => ?_⟩
      have hD2 : H2 D = some (.lst (ti (c.map (wrt k)))) := eN _ _ (sp _ _ h1) fun _ z => by cases z
      refine ⟨?_, fun p2 hp2 => ?_⟩
      · intro A' s0 s2 pins qual cl f' c1 c' L D' i tk hi I kp hD' hcl hcell hns
        cases (show some (some (V.ref D)) = some (some (V.ref D')) from hD')
        obtain ⟨m, hm, rfl⟩ := List.mem_map.mp hi
        have hm2 : m < c.length := List.mem_range.mp hm
        have I2 := I.kept (t' := s0.toks) kp
        obtain ⟨its, rv, pl, hz⟩ := I2.list (.inl (.inl hD2))
        have e0 : (ti (c.map (wrt k)))[m]? = some (.int (wAt k c m)) := by simp [wAt, hm2]
        obtain ⟨u, hu1, ru⟩ := rv.get e0
        obtain ⟨tu, rfl⟩ := ru
        exact keyBody_pair (its := its) (i := (m : Int)) (j := wAt k c m) rfl rfl rfl hcl hcell pl.isList hns (by omega) (by omega) (by rw [Int.toNat_natCast]; exact hu1)
      · have ht2 := ExtN.sqt eN (Same.sqt sp ht1)
        have s3 : Same H2 (upd H2 p2 (.lst (((natI (List.range c.length)).mergeSort (PySem.W.dataLe false (kP (wAt k c)))).map V.int))) := Same.new hp2
        have ho : (upd H2 p2 (.lst (((natI (List.range c.length)).mergeSort (PySem.W.dataLe false (kP (wAt k c)))).map V.int))) p2 = some (.lst (ti (natI (ordL k c)))) := by
          rw [upd_same, sort_natP]
          rfl
        revert s3 ho
        generalize upd H2 p2 (.lst (((natI (List.range c.length)).mergeSort (PySem.W.dataLe false (kP (wAt k c)))).map V.int)) = H3
        intro s3 ho
        have T3 : Tabs T H3 := T2.ext s3
        have e3 : ExtN H H3 := ExtN.trans (ExtN.of (s1.trans sp)) (ExtN.trans eN (ExtN.of s3))
        refine ⟨_, rfl, p2, rfl, ⟨_, .inl (.inl ho)⟩, fun D2 hD2 => ?_⟩
        refine lc_ints walk_list (List.replicate c.length 0) (by rw [List.length_replicate, natI_len, ordL_len]) (by rw [natI_len, ordL_len]; omega) hD2 (fun H' s' => .inl (.inl (s' _ _ ho))) (fun i Ha x Hb _ y => by rw [y.1]; exact Same.refl _) (fun i x Ha Hb v R hi hv sa y r => ?_) fun H4 s4 h4 => ?_
        · have e : v = 0 := List.eq_of_mem_replicate (List.mem_of_getElem? hv)
          rw [← e]
          exact r Hb (Same.refl _)
        · refine ⟨_, rfl, p2, _, rfl, .inl (.inl (s4 _ _ ho)), ?_⟩
          have h4' : H4 D2 = some (.lst (ti (natI (fndL k c 0)))) := by
            rw [h4, fndL_zero]
            simp [natI]
          refine for_it walk_enum (fun i σ H' => Same H3 H' ∧ σ[4]? = some (some (.ref D2)) ∧ σ.length = 8 ∧ H' D2 = some (.lst (ti (natI (fndL k c i))))) ⟨s4, rfl, rfl, h4'⟩ (fun i σ H' _ p => .inl (.inl (p.1 _ _ ho))) (fun i x σ Ha Hb hi p y => ?_) fun σ H' p => ?_
          · obtain ⟨sa, h0, hl, hDl⟩ := p
            obtain ⟨T1, u, v, rfl, nT, rfl, eu, ev⟩ := y
            cases eu
            obtain ⟨pp, ep, rfl⟩ := natI_get ev
            have hpp : pp < c.length := ordL_mem.mp (List.mem_of_getElem? ep)
            have e2 : Same Ha (upd Ha T1 (.tup [.int (i : Nat), .int (pp : Int)])) := Same.new nT
            have g1 : ((σ.set 5 (some (.int (i : Nat)))).set 6 (some (.int (pp : Int))))[4]? = some (some (.ref D2)) := by rw [List.getElem?_set_ne (by decide), List.getElem?_set_ne (by decide)]; exact h0
            have g2 : ((σ.set 5 (some (.int (i : Nat)))).set 6 (some (.int (pp : Int))))[5]? = some (some (.int (i : Nat))) := by rw [List.getElem?_set_ne (by decide), List.getElem?_set_self (by omega)]
            have g3 : ((σ.set 5 (some (.int (i : Nat)))).set 6 (some (.int (pp : Int))))[6]? = some (some (.int (pp : Int))) := List.getElem?_set_self (by rw [List.length_set]; omega)
            refine ⟨T1, _, rfl, SqT.of upd_same, rfl, _, _, rfl, ?_⟩
            refine ⟨_, _, rfl, rfl, ?_⟩
            refine ⟨_, g2, _, g1, _, g3, D2, ti (natI (fndL k c i)), (pp : Int), pp, rfl, rfl, e2 _ _ hDl, ?_, ?_⟩
            · rw [natI_len, fndL_len, ixN, if_pos (by omega), if_pos (by omega), Int.toNat_natCast]
            · refine ⟨same_lst (sa.trans e2) hD2, g1, by rw [List.length_set, List.length_set]; exact hl, ?_⟩
              rw [upd_same, ← fndL_set ep]
              simp [ti, natI, List.map_set]
          · obtain ⟨sa, h0, hl, hDl⟩ := p
            rw [natI_len, ordL_len, fndL_all] at hDl
            exact ⟨_, h0, q H' (ExtN.trans e3 (ExtN.of sa)) (T3.ext sa) D2 hDl⟩
end
end Eo
set_option maxHeartbeats 4000000
namespace Eo
open PySem PySem.Spec PyProof.Rows L2 LamX
open C8 (pe_gc)
theorem natI_at {l : List Nat} {i x : Nat} (h : l[i]? = some x) : atI (ti (natI l)) (i : Int) = some (.int (x : Int)) := atI_nat (by simp [ti, natI, h])
theorem pe_no {X : Cx} {e : Expr} : PE X e (fun _ _ _ => False) := ⟨fun _ _ _ _ _ _ h => h.elim⟩
structure Whole (k : Str) (c : List Int) : Prop where
  ok : ColOk c
  marks : (c.filter fun x => decide (x = -1)).length = if k = "ring" then 0 else 1
  many : (c.filter fun x => decide (x = -1)).length + 1 ≤ c.length
  most : c.length ≤ 60 + (c.filter fun x => decide (x = -1)).length
  ring : ∃ cy, Cyc (stepsL k c) 0 cy ∧ cy.length = c.length
section
variable {P : Program} {w : World} {K : PySem.W.Frag} {mg : Str → Option Value} {base : Heap}
/-! ### ring_from -/
def spRing (K : PySem.W.Frag) : Sp := fun vs H Q _ => ∃ (a : Addr) (st cy : List Nat) (at_ : Nat), vs = [.ref a, .int (at_ : Int)] ∧ SqL K H a (ti (natI st)) ∧ Cyc st at_ cy ∧ cy.length ≤ 61 ∧ ∀ H' q, Same H H' → H' q = some (.lst (ti (natI cy))) → Q (.ref q) H'
theorem sc_ring : FnScope ["steps", "at", "found"] ["steps", "at"] (defScope sRingFrom) := ⟨rfl, rfl, rfl, by decide +kernel, rfl, by decide +kernel, by decide +kernel⟩
theorem ok_ring (D : Df K mg "ring_from" sRingFrom) (G : Gd K mg) : CalE P w K mg base CX0 1 "ring_from" (spRing K) := by
  have nd := sc_ring.nd
  refine D.ok sc_ring (fun _ _ _ _ _ _ us hl => match us, hl with | [_, _], _ => rfl) (fun vs H Q E h => ?_) (fun f cdv A outer s H vs Q E hr h => ?_)
  · obtain ⟨a, st, cy, at_, rfl, _⟩ := h
    rfl
  · refine ⟨_, (pss_cons (ps_set (i := 2) nd rfl (Or.inl rfl) (pe_lst (pa_cons (pv 1) pa_nil)))
  (pss_cons (ps_while PassesOwn.never (pt_cmpR op_ne (pe_ix ix_list (pv 0) (pe_ix ix_list (pv 2) (pe_un un_neg pe_int) (fun _ _ => rfl)) (fun _ _ => rfl)) (pv 1) (nomark _)) (pss_one (ps_expr (pe_bm PySem.F.plainAttrs_list PySem.F.slot_list_append PySem.F.type_list_append mt_append (pv 2) (pa_cons (pe_ix ix_list (pv 0) (pe_ix ix_list (pv 2) (pe_un un_neg pe_int) (fun _ _ => rfl)) (fun _ _ => rfl)) pa_nil)))))
  (pss_one (ps_ret (pv 2))))), ?_⟩
    obtain ⟨a, st, cy, at_, rfl, ha, C, few, q⟩ := h
    have pos := C.pos
    have zl : (1000 : Nat) ≤ sizeLine := by decide
    refine ⟨_, rfl, by show 1 ≤ sizeLine; decide, fun D hD => ?_⟩
    refine ⟨fun m σ H' => ∃ i, i < cy.length ∧ m + i = cy.length ∧ Same H H' ∧ H' D = some (.lst (ti (natI (cy.take (i + 1))))) ∧ σ[0]? = some (some (.ref a)) ∧ σ[1]? = some (some (.int (at_ : Int))) ∧ σ[2]? = some (some (.ref D)), ⟨cy.length, 0, pos, rfl, same_lst (Same.refl _) hD, ?_, rfl, rfl, rfl⟩, ?_⟩
    · rw [upd_same, List.take_succ, List.take_zero, C.hd]
      rfl
    · rintro m σ H' ⟨i, hi, hm, s1, hDl, g0, g1, g2⟩
      have ha1 : SqL K H' a (ti (natI st)) := ExtN.sql (ExtN.of s1) ha
      have hci : cy[i]? = some cy[i] := List.getElem?_eq_getElem hi
      have el : atI (ti (natI (cy.take (i + 1)))) (-1) = some (.int (cy[i] : Int)) := by
        rw [List.take_succ, hci]
        simp only [natI, ti, List.map_append, Option.toList_some, List.map_cons, List.map_nil]
        exact atI_last _ _
      obtain ⟨y, hy, hyn⟩ : ∃ y, st[cy[i]]? = some y ∧ ((i + 1 = cy.length ∧ y = at_) ∨ (i + 1 < cy.length ∧ cy[i + 1]? = some y ∧ y ≠ at_)) := by
        by_cases e : i + 1 < cy.length
        · have z := C.next i _ _ hci (List.getElem?_eq_getElem e)
          exact ⟨_, z.1, .inr ⟨e, List.getElem?_eq_getElem e, z.2⟩⟩
        · have e2 : i = cy.length - 1 := by omega
          exact ⟨at_, C.last _ (by rw [← e2]; exact hci), .inl ⟨by omega, rfl⟩⟩
      refine ⟨_, g0, _, g2, _, rfl, D, _, _, _, rfl, rfl, .inl (.inl hDl), el, ?_⟩
      refine ⟨a, _, _, _, rfl, rfl, ha1, natI_at hy, ?_⟩
      refine ⟨_, g1, rfl, _, rfl, ?_⟩
      rw [vint_eq]
      rcases hyn with ⟨e1, e2⟩ | ⟨e1, e2, e3⟩
      · rw [decide_eq_true (show ((y : Int) = (at_ : Int)) by omega)]
        refine iteF ?_
        rw [e1, List.take_length] at hDl
        exact ⟨_, g2, q H' D s1 hDl⟩
      · rw [decide_eq_false (show ¬ ((y : Int) = (at_ : Int)) by omega)]
        refine iteT ⟨fun σ' H2 => σ' = σ ∧ Same H H2 ∧ H2 D = some (.lst (ti (natI (cy.take (i + 2))))), fun σ' H2 p => ⟨m - 1, by omega, i + 1, e1, by omega, p.2.1, p.2.2, by rw [p.1]; exact g0, by rw [p.1]; exact g1, by rw [p.1]; exact g2⟩, ?_⟩
        refine ⟨_, g2, .inl ⟨rfl, _, .inl (.inl hDl)⟩, ?_⟩
        refine ⟨_, g0, _, g2, _, rfl, D, _, _, _, rfl, rfl, .inl (.inl hDl), el, ?_⟩
        refine ⟨a, _, _, _, rfl, rfl, ha1, natI_at hy, ?_⟩
        refine ⟨D, _, _, rfl, rfl, hDl, by rw [natI_len, List.length_take]; omega, rfl, same_lst s1 hD, ?_⟩
        rw [upd_same, show i + 2 = (i + 1) + 1 from rfl, List.take_succ (i := i + 1), e2]
        simp [natI, ti]
/-! ### is_marked -/
def spMarked (K : PySem.W.Frag) : Sp := fun vs H Q _ => ∃ (a : Addr) (c : List Int) (k : Str), vs = [.ref a, .str k] ∧ SqT K H a (ti c) ∧ Whole k c ∧ ∀ H', Same H H' → Q (.bl true) H'
def NMarked : List Str := ["column", "kind", "marks", "letter"]
theorem sc_marked : FnScope NMarked ["column", "kind"] (defScope sIsMarked) := ⟨rfl, rfl, rfl, by decide +kernel, rfl, by decide +kernel, by decide +kernel⟩
theorem ok_marked (D : Df K mg "is_marked" sIsMarked) (G : Gd K mg) : CalE P w K mg base CX0 1 "is_marked" (spMarked K) := by
  have nd := sc_marked.nd
  refine D.ok sc_marked (fun _ _ _ _ _ _ us hl => match us, hl with | [_, _], _ => rfl) (fun vs H Q E h => ?_) (fun f cdv A outer s H vs Q E hr h => ?_)
  · obtain ⟨a, c, k, rfl, _⟩ := h
    rfl
  · refine ⟨_, (pss_cons (ps_set (i := 2) nd rfl (Or.inl rfl) (pe_callB call_len rfl G.b_len (by decide +kernel) (pa_cons (pe_lc (own := [("letter", 3)]) (g := gName 3) rfl nd (pi_tup (pv 0)) (blkOk_by (N := NMarked) (sc := defScope sIsMarked) (by decide +kernel)) (fun _ _ _ _ _ => pg_name (i := 3) nd rfl (Or.inl rfl)) (fun _ _ _ _ _ => pts_one (pt_cmpR op_eq (pv 3) (pe_gc rfl G.c_MARK) (nomark _))) (fun _ _ _ _ _ => (pv 3))) pa_nil)))
  (pss_one (ps_ret (pe_and (pe_chain op_le op_le pe_int (pe_op op_sub (pe_callB call_len rfl G.b_len (by decide +kernel) (pa_cons (pv 0) pa_nil)) (pv 2)) (pe_gc rfl G.c_MOST_PLACES)) (pe_one (pe_cmpR op_eq (pv 2) (pe_ifExp (pt_cmpR op_eq (pv 1) pe_str (nomark _)) pe_int pe_int) (nomark _))))))), ?_⟩
    obtain ⟨a, c, k, rfl, ht, wh, q⟩ := h
    have few := wh.ok.few
    have zl : (1000 : Nat) ≤ sizeLine := by decide
    refine ⟨_, rfl, a, rfl, ⟨_, ht⟩, fun D hD => ?_⟩
    refine lc_it walk_tup (fun i H' => Same H H' ∧ H' D = some (.lst (ti ((c.take i).filter fun x => decide (x = -1))))) ⟨same_lst (Same.refl _) hD, upd_same⟩ (fun i H' _ p => Same.sqt p.1 ht) (fun i x Ha Hb hi p y => ?_) fun H1 p => ?_
    · obtain ⟨sa, hDl⟩ := p
      obtain ⟨e1, e2⟩ := y
      subst e1
      rw [ti_len] at hi
      have e3 : x = .int c[i] := by
        have z : (ti c)[i]? = some (.int c[i]) := by simp [hi]
        rw [z] at e2
        exact (Option.some.inj e2).symm
      subst e3
      have et : c.take (i + 1) = c.take i ++ [c[i]] := by rw [List.take_succ, List.getElem?_eq_getElem hi]; rfl
      refine ⟨rfl, ?_⟩
      refine ⟨_, rfl, rfl, decide (c[i] = -1), by rw [vint_eq], ?_⟩
      by_cases h1 : c[i] = -1
      · rw [decide_eq_true h1]
        refine iteT ⟨_, rfl, _, hDl, ?_, same_lst sa hD, ?_⟩
        · rw [ti_len]
          have := List.length_filter_le (fun x => decide (x = -1)) (c.take i)
          rw [List.length_take] at this
          omega
        · rw [upd_same, et, List.filter_append, ti_app]
          simp [h1]
      · rw [decide_eq_false h1]
        refine iteF ⟨sa, ?_⟩
        rw [hDl, et, List.filter_append]
        simp [h1]
    · obtain ⟨s1, hDl⟩ := p
      rw [ti_len, List.take_length] at hDl
      have ht1 := Same.sqt s1 ht
      have hm1 := wh.many
      have hm2 := wh.most
      have hm3 := wh.marks
      generalize (c.filter fun x => decide (x = -1)) = ms at hDl hm1 hm2 hm3
      refine ⟨_, ms.length, rfl, .inl ⟨_, .inl (.inl hDl), by rw [ti_len]⟩, ?_⟩
      refine ⟨_, rfl, _, c.length, rfl, .inr ⟨_, ht1, by rw [ti_len]⟩, _, rfl, _, _, rfl, rfl, ?_⟩
      refine ⟨_, _, rfl, rfl, decide ((1 : Int) ≤ (c.length : Int) - (ms.length : Int)), rfl, ?_⟩
      rw [decide_eq_true (show (1 : Int) ≤ (c.length : Int) - (ms.length : Int) by omega)]
      refine iteT ⟨_, _, rfl, rfl, ?_⟩
      have e60 : decide ((c.length : Int) - (ms.length : Int) ≤ 60) = true := decide_eq_true (by omega)
      refine ⟨true, congrArg V.bl e60, iteT ?_⟩
      refine ⟨_, rfl, _, rfl, rfl, decide (k = "ring"), by rw [vstr_eq], ?_⟩
      by_cases hk : k = "ring"
      · rw [decide_eq_true hk]
        rw [if_pos hk] at hm3
        refine iteT ⟨rfl, ?_⟩
        rw [vint_eq, decide_eq_true (show (ms.length : Int) = 0 by omega)]
        exact q H1 s1
      · rw [decide_eq_false hk]
        rw [if_neg hk] at hm3
        refine iteF ⟨rfl, ?_⟩
        rw [vint_eq, decide_eq_true (show (ms.length : Int) = 1 by omega)]
        exact q H1 s1
/-! ### is_whole, is_column -/
def spWhole (K : PySem.W.Frag) (T : List (Addr × Str)) : Sp := fun vs H Q _ => ∃ (a : Addr) (c : List Int) (k : Str), vs = [.ref a, .str k] ∧ SqT K H a (ti c) ∧ Whole k c ∧ k ∈ kinds ∧ Tabs T H ∧ ∀ H', ExtN H H' → Tabs T H' → Q (.bl true) H'
theorem sc_whole : FnScope ["column", "kind"] ["column", "kind"] (defScope sIsWhole) := ⟨rfl, rfl, rfl, by decide +kernel, rfl, by decide +kernel, by decide +kernel⟩
theorem ok_whole {T : List (Addr × Str)} (D : Df K mg "is_whole" sIsWhole) (G : Gd K mg) (C_is_marked : CalE P w K mg base CX0 1 "is_marked" (spMarked K)) (C_ring_from : CalE P w K mg base CX0 1 "ring_from" (spRing K)) (C_steps_of : CalE P w K mg base CX0 2 "steps_of" (spSteps K T)) :
    CalE P w K mg base CX0 3 "is_whole" (spWhole K T) := by
  refine D.ok sc_whole (fun _ _ _ _ _ _ us hl => match us, hl with | [_, _], _ => rfl) (fun vs H Q E h => ?_) (fun f cdv A outer s H vs Q E hr h => ?_)
  · obtain ⟨a, c, k, rfl, _⟩ := h
    rfl
  · refine ⟨_, (pss_one (ps_ret (pe_and (pe_cal C_is_marked (hr.mono (by decide)) rfl pass0 (pa_cons (pv 0) (pa_cons (pv 1) pa_nil))) (pe_one (pe_cmpR op_eq (pe_callB call_len rfl G.b_len (by decide +kernel) (pa_cons (pe_cal C_ring_from (hr.mono (by decide)) rfl pass0 (pa_cons (pe_cal C_steps_of (hr.mono (by decide)) rfl pass0 (pa_cons (pv 0) (pa_cons (pv 1) pa_nil))) (pa_cons pe_int pa_nil))) pa_nil)) (pe_callB call_len rfl G.b_len (by decide +kernel) (pa_cons (pv 0) pa_nil)) (nomark _)))))), ?_⟩
    obtain ⟨a, c, k, rfl, ht, wh, hk, hT, q⟩ := h
    obtain ⟨cy, C, hl⟩ := wh.ring
    have few := wh.ok.few
    refine ⟨_, rfl, _, rfl, a, c, k, rfl, ht, wh, fun H1 s1 => ?_⟩
    refine ⟨true, rfl, iteT ?_⟩
    have ht1 := Same.sqt s1 ht
    refine ⟨_, rfl, _, rfl, a, c, k, rfl, ht1, wh.ok, hk, hT.ext s1, fun H2 eN T2 st hst => ?_⟩
    refine ⟨st, _, cy, 0, rfl, .inl (.inl hst), C, by omega, fun H3 r s3 hr3 => ?_⟩
    have ht3 := Same.sqt s3 (ExtN.sqt eN ht1)
    refine ⟨_, cy.length, rfl, .inl ⟨_, .inl (.inl hr3), by rw [natI_len]⟩, ?_⟩
    refine ⟨_, rfl, _, c.length, rfl, .inr ⟨_, ht3, by rw [ti_len]⟩, rfl, ?_⟩
    rw [vint_eq, decide_eq_true (show (cy.length : Int) = (c.length : Int) by omega)]
    exact q H3 (ExtN.trans (ExtN.of s1) (ExtN.trans eN (ExtN.of s3))) (T2.ext s3)
theorem sc_isColumn : FnScope ["column", "kind"] ["column", "kind"] (defScope sIsColumn) := ⟨rfl, rfl, rfl, by decide +kernel, rfl, by decide +kernel, by decide +kernel⟩
theorem ok_isColumn {T : List (Addr × Str)} (D : Df K mg "is_column" sIsColumn) (G : Gd K mg) (C_check_column : CalE P w K mg base CX0 4 "check_column" (spCheckColumn K)) (C_check_kind : CalE P w K mg base CX0 1 "check_kind" spCheckKind) (C_is_whole : CalE P w K mg base CX0 3 "is_whole" (spWhole K T)) :
    CalK P w K mg base 5 "is_column" ["kind", "column"] (spWhole K T) := by
  refine D.okK sc_isColumn (fun _ _ _ _ _ _ us hl => match us, hl with | [_, _], _ => rfl) (fun _ _ _ _ _ _ us hl => match us, hl with | [_, _], _ => rfl) (fun vs H Q E h => ?_) (fun f cdv A outer s H vs Q E hr h => ?_)
  · obtain ⟨a, c, k, rfl, _⟩ := h
    rfl
  · refine ⟨_, (pss_cons (ps_expr (pe_cal C_check_column (hr.mono (by decide)) rfl pass0 (pa_cons (pv 0) pa_nil)))
  (pss_cons (ps_expr (pe_cal C_check_kind (hr.mono (by decide)) rfl pass0 (pa_cons (pv 1) pa_nil)))
  (pss_one (ps_ret (pe_cal C_is_whole (hr.mono (by decide)) rfl pass0 (pa_cons (pv 0) (pa_cons (pv 1) pa_nil))))))), ?_⟩
    obtain ⟨a, c, k, rfl, ht, wh, hk, hT, q⟩ := h
    refine ⟨_, rfl, a, c, rfl, ht, wh.ok, fun H1 s1 => ?_⟩
    refine ⟨_, rfl, k, rfl, hk, ?_⟩
    exact ⟨_, rfl, _, rfl, a, c, k, rfl, Same.sqt s1 ht, wh, hk, hT.ext s1, fun H2 eN T2 => q H2 (ExtN.trans (ExtN.of s1) eN) T2⟩
/-! ### short_ring of a whole column: None -/
def spShort (K : PySem.W.Frag) (T : List (Addr × Str)) : Sp := fun vs H Q _ => ∃ (a : Addr) (c : List Int) (k : Str), vs = [.ref a, .str k] ∧ SqT K H a (ti c) ∧ Whole k c ∧ k ∈ kinds ∧ Tabs T H ∧ ∀ H', ExtN H H' → Tabs T H' → Q .non H'
theorem sc_short : FnScope ["column", "kind", "found"] ["column", "kind"] (defScope sShortRing) := ⟨rfl, rfl, rfl, by decide +kernel, rfl, by decide +kernel, by decide +kernel⟩
theorem ok_short {T : List (Addr × Str)} (D : Df K mg "short_ring" sShortRing) (G : Gd K mg) (C_check_column : CalE P w K mg base CX0 4 "check_column" (spCheckColumn K)) (C_check_kind : CalE P w K mg base CX0 1 "check_kind" spCheckKind) (C_ring_from : CalE P w K mg base CX0 1 "ring_from" (spRing K)) (C_steps_of : CalE P w K mg base CX0 2 "steps_of" (spSteps K T)) :
    CalK P w K mg base 5 "short_ring" ["kind", "column"] (spShort K T) := by
  have nd := sc_short.nd
  refine D.okK sc_short (fun _ _ _ _ _ _ us hl => match us, hl with | [_, _], _ => rfl) (fun _ _ _ _ _ _ us hl => match us, hl with | [_, _], _ => rfl) (fun vs H Q E h => ?_) (fun f cdv A outer s H vs Q E hr h => ?_)
  · obtain ⟨a, c, k, rfl, _⟩ := h
    rfl
  · refine ⟨_, (pss_cons (ps_expr (pe_cal C_check_column (hr.mono (by decide)) rfl pass0 (pa_cons (pv 0) pa_nil)))
  (pss_cons (ps_expr (pe_cal C_check_kind (hr.mono (by decide)) rfl pass0 (pa_cons (pv 1) pa_nil)))
  (pss_cons (ps_set (i := 2) nd rfl (Or.inl rfl) (pe_cal C_ring_from (hr.mono (by decide)) rfl pass0 (pa_cons (pe_cal C_steps_of (hr.mono (by decide)) rfl pass0 (pa_cons (pv 0) (pa_cons (pv 1) pa_nil))) (pa_cons pe_int pa_nil))))
  (pss_one (ps_ret (pe_ifExp (pt_cmpR op_lt (pe_callB call_len rfl G.b_len (by decide +kernel) (pa_cons (pv 2) pa_nil)) (pe_callB call_len rfl G.b_len (by decide +kernel) (pa_cons (pv 0) pa_nil)) (nomark _)) pe_no pe_non)))))), ?_⟩
    obtain ⟨a, c, k, rfl, ht, wh, hk, hT, q⟩ := h
    obtain ⟨cy, C, hl⟩ := wh.ring
    have few := wh.ok.few
    refine ⟨_, rfl, a, c, rfl, ht, wh.ok, fun H1 s1 => ?_⟩
    refine ⟨_, rfl, k, rfl, hk, ?_⟩
    have ht1 := Same.sqt s1 ht
    refine ⟨_, rfl, _, rfl, a, c, k, rfl, ht1, wh.ok, hk, hT.ext s1, fun H2 eN T2 st hst => ?_⟩
    refine ⟨st, _, cy, 0, rfl, .inl (.inl hst), C, by omega, fun H3 r s3 hr3 => ?_⟩
    have ht3 := Same.sqt s3 (ExtN.sqt eN ht1)
    refine ⟨_, rfl, _, cy.length, rfl, .inl ⟨_, .inl (.inl hr3), by rw [natI_len]⟩, ?_⟩
    refine ⟨_, rfl, _, c.length, rfl, .inr ⟨_, ht3, by rw [ti_len]⟩, _, _, rfl, rfl, decide ((cy.length : Int) < (c.length : Int)), rfl, ?_⟩
    rw [decide_eq_false (show ¬ (cy.length : Int) < (c.length : Int) by omega)]
    exact iteF (q H3 (ExtN.trans (ExtN.of s1) (ExtN.trans eN (ExtN.of s3))) (T2.ext s3))
/-! ### text_of -/
def at0 (k : Str) (c : List Int) : Nat := if k = "last" then c.length - 1 else 0
def spTextOf (K : PySem.W.Frag) (T : List (Addr × Str)) : Sp := fun vs H Q _ => ∃ (a : Addr) (c : List Int) (k : Str) (row : List Nat), vs = [.ref a, .str k] ∧ SqT K H a (ti c) ∧ Whole k c ∧ k ∈ kinds ∧ Cyc (stepsL k c) (at0 k c) row ∧ row.length ≤ 61 ∧ (∀ x ∈ row, x < c.length) ∧ Tabs T H ∧
  ∀ H', ExtN H H' → Tabs T H' → ∀ p, SqT K H' p (ti (((row.map fun x => c.getD x 0).reverse).filter fun x => !decide (x = -1))) → Q (.ref p) H'
def NTextOf : List Str := ["column", "kind", "row", "letters", "at", "letter"]
theorem sc_textOf : FnScope NTextOf ["column", "kind"] (defScope sTextOf) := ⟨rfl, rfl, rfl, by decide +kernel, rfl, by decide +kernel, by decide +kernel⟩
theorem ok_textOf {T : List (Addr × Str)} (D : Df K mg "text_of" sTextOf) (G : Gd K mg) (C_check_column : CalE P w K mg base CX0 4 "check_column" (spCheckColumn K)) (C_check_kind : CalE P w K mg base CX0 1 "check_kind" spCheckKind) (C_ring_from : CalE P w K mg base CX0 1 "ring_from" (spRing K)) (C_steps_of : CalE P w K mg base CX0 2 "steps_of" (spSteps K T))
    (C_is_whole : CalE P w K mg base CX0 3 "is_whole" (spWhole K T)) : CalK P w K mg base 5 "text_of" ["kind", "column"] (spTextOf K T) := by
  have nd := sc_textOf.nd
  refine D.okK sc_textOf (fun _ _ _ _ _ _ us hl => match us, hl with | [_, _], _ => rfl) (fun _ _ _ _ _ _ us hl => match us, hl with | [_, _], _ => rfl) (fun vs H Q E h => ?_) (fun f cdv A outer s H vs Q E hr h => ?_)
  · obtain ⟨a, c, k, row, rfl, _⟩ := h
    rfl
  · refine ⟨_, (pss_cons (ps_expr (pe_cal C_check_column (hr.mono (by decide)) rfl pass0 (pa_cons (pv 0) pa_nil)))
  (pss_cons (ps_expr (pe_cal C_check_kind (hr.mono (by decide)) rfl pass0 (pa_cons (pv 1) pa_nil)))
  (pss_cons (ps_if (pt_not (pt_val (pe_cal C_is_whole (hr.mono (by decide)) rfl pass0 (pa_cons (pv 0) (pa_cons (pv 1) pa_nil))))) (pss_one (ps_ret pe_non)) pss_nil)
  (pss_cons (ps_set (i := 2) nd rfl (Or.inl rfl) (pe_cal C_ring_from (hr.mono (by decide)) rfl pass0 (pa_cons (pe_cal C_steps_of (hr.mono (by decide)) rfl pass0 (pa_cons (pv 0) (pa_cons (pv 1) pa_nil))) (pa_cons (pe_ifExp (pt_cmpR op_eq (pv 1) pe_str (nomark _)) (pe_op op_sub (pe_callB call_len rfl G.b_len (by decide +kernel) (pa_cons (pv 0) pa_nil)) pe_int) pe_int) pa_nil))))
  (pss_cons (ps_set (i := 3) nd rfl (Or.inl rfl) (pe_revL (pe_lc (own := [("at", 4)]) (g := gName 4) (tt := tYes) rfl nd (pi_list (pv 2)) (blkOk_by (N := NTextOf) (sc := defScope sTextOf) (by decide +kernel)) (fun _ _ _ _ _ => pg_name (i := 4) nd rfl (Or.inl rfl)) (fun _ _ _ _ _ => pts_nil) (fun _ _ _ _ _ => (pe_ix (r := rIxT K) ix_tup (pv 0) (pv 4) (fun _ _ => rfl))))))
  (pss_one (ps_ret (pe_callTy call_tuple_of rfl G.b_tuple (by decide +kernel) (pa_cons (pe_lc (own := [("letter", 5)]) (g := gName 5) rfl nd (pi_list (pv 3)) (blkOk_by (N := NTextOf) (sc := defScope sTextOf) (by decide +kernel)) (fun _ _ _ _ _ => pg_name (i := 5) nd rfl (Or.inl rfl)) (fun _ _ _ _ _ => pts_one (pt_cmpR op_ne (pv 5) (pe_gc rfl G.c_MARK) (nomark _))) (fun _ _ _ _ _ => (pv 5))) pa_nil))))))))), ?_⟩
    obtain ⟨a, c, k, row, rfl, ht, wh, hk, C, hrl, hlt, hT, q⟩ := h
    have few := wh.ok.few
    have cpos : 0 < c.length := List.length_pos_iff.mpr wh.ok.ne
    have zl : (1000 : Nat) ≤ sizeLine := by decide
    refine ⟨_, rfl, a, c, rfl, ht, wh.ok, fun H1 s1 => ?_⟩
    refine ⟨_, rfl, k, rfl, hk, ?_⟩
    have ht1 := Same.sqt s1 ht
    refine ⟨_, rfl, _, rfl, a, c, k, rfl, ht1, wh, hk, hT.ext s1, fun H2 e2 T2 => ?_⟩
    have ht2 := ExtN.sqt e2 ht1
    refine ⟨true, rfl, iteF ?_⟩
    refine ⟨_, rfl, _, rfl, a, c, k, rfl, ht2, wh.ok, hk, T2, fun H3 e3 T3 st hst => ?_⟩
    have ht3 := ExtN.sqt e3 ht2
    have key : ∀ R : VK, R (.int (at0 k c : Int)) H3 → tIf (tTest (tOp rEq (tVar 1) (tC (V.str "last")))) (tOp (rI0 fun i j => V.int (i - j)) (tCB (fun xs H_2 Q => ∃ x n, xs = [x] ∧ LenV K x H_2 n ∧ Q (V.int (n : Int)) H_2) (tCons (tVar 0) tNil)) (tC (V.int 1))) (tC (V.int 0)) (L2.start NTextOf [.ref a, .str k]) H3 R := by
      intro R hR
      refine ⟨_, rfl, rfl, decide (k = "last"), by rw [vstr_eq], ?_⟩
      by_cases h1 : k = "last"
      · rw [decide_eq_true h1]
        refine iteT ⟨_, rfl, _, c.length, rfl, .inr ⟨_, ht3, by rw [ti_len]⟩, _, _, rfl, rfl, ?_⟩
        have e : ((c.length : Int) - 1) = (at0 k c : Int) := by
          rw [at0, if_pos h1]
          omega
        rw [← e] at hR
        exact hR
      · rw [decide_eq_false h1]
        refine iteF ?_
        have e : (0 : Int) = (at0 k c : Int) := by
          rw [at0, if_neg h1]
          rfl
        rw [← e] at hR
        exact hR
    refine key _ ?_
    refine ⟨st, _, row, at0 k c, rfl, .inl (.inl hst), C, hrl, fun H4 r s4 hr4 => ?_⟩
    have ht4 := Same.sqt s4 ht3
    have T4 := T3.ext s4
    refine ⟨_, rfl, r, rfl, ⟨_, .inl (.inl hr4)⟩, fun D hD => ?_⟩
    refine lc_ints walk_list (row.map fun x => c.getD x 0) (by rw [List.length_map, natI_len]) (by rw [natI_len]; omega) hD (fun H' s' => .inl (.inl (s' _ _ hr4))) (fun i Ha x Hb _ y => by rw [y.1]; exact Same.refl _) (fun i x Ha Hb v R hi hv sa y rr => ?_) fun H5 s5 h5 => ?_
    · obtain ⟨e1, e2⟩ := y
      subst e1
      obtain ⟨pp, e3, rfl⟩ := natI_get e2
      have hpp := hlt pp (List.mem_of_getElem? e3)
      have ev : v = c[pp] := by
        have z : (row.map fun x => c.getD x 0)[i]? = some (c[pp]) := by simp [e3, hpp]
        rw [z] at hv
        exact (Option.some.inj hv).symm
      rw [ev] at rr
      exact ⟨_, rfl, _, rfl, a, _, _, _, rfl, rfl, Same.sqt sa ht4, atI_nat (by simp [hpp]), rr Hb (Same.refl _)⟩
    · refine ⟨D, _, rfl, .inl (.inl h5), fun p hp => ?_⟩
      have s6 : Same H5 (upd H5 p (.lst (ti (row.map fun x => c.getD x 0)).reverse)) := Same.new hp
      have er : (ti (row.map fun x => c.getD x 0)).reverse = ti (row.map fun x => c.getD x 0).reverse := (List.map_reverse).symm
      rw [er] at s6
      rw [er]
      have hl6 : (upd H5 p (.lst (ti (row.map fun x => c.getD x 0).reverse))) p = some (.lst (ti (row.map fun x => c.getD x 0).reverse)) := upd_same
      revert s6 hl6
      generalize upd H5 p (.lst (ti (row.map fun x => c.getD x 0).reverse)) = H6
      have elen : ((row.map fun x => c.getD x 0).reverse).length = row.length := by rw [List.length_reverse, List.length_map]
      generalize (row.map fun x => c.getD x 0).reverse = ls at q elen
      intro s6 hl6
      refine ⟨_, rfl, p, rfl, ⟨_, .inl (.inl hl6)⟩, fun D2 hD2 => ?_⟩
      refine lc_it walk_list (fun i H' => Same H6 H' ∧ H' D2 = some (.lst (ti ((ls.take i).filter fun x => !decide (x = -1))))) ⟨same_lst (Same.refl _) hD2, upd_same⟩ (fun i H' _ p => .inl (.inl (p.1 _ _ hl6))) (fun i x Ha Hb hi p y => ?_) fun H7 p => ?_
      · obtain ⟨sa, hDl⟩ := p
        obtain ⟨e1, e2⟩ := y
        subst e1
        rw [ti_len] at hi
        have e3 : x = .int ls[i] := by
          have z : (ti ls)[i]? = some (.int ls[i]) := by simp [hi]
          rw [z] at e2
          exact (Option.some.inj e2).symm
        subst e3
        have et : ls.take (i + 1) = ls.take i ++ [ls[i]] := by rw [List.take_succ, List.getElem?_eq_getElem hi]; rfl
        refine ⟨rfl, ?_⟩
        refine ⟨_, rfl, rfl, !decide (ls[i] = -1), by rw [vint_eq], ?_⟩
        by_cases h1 : ls[i] = -1
        · rw [decide_eq_true h1]
          refine iteF ⟨sa, ?_⟩
          rw [hDl, et, List.filter_append]
          simp [h1]
        · rw [decide_eq_false h1]
          refine iteT ⟨_, rfl, _, hDl, ?_, same_lst sa hD2, ?_⟩
          · rw [ti_len]
            have := List.length_filter_le (fun x => !decide (x = -1)) (ls.take i)
            rw [List.length_take] at this
            omega
          · rw [upd_same, et, List.filter_append, ti_app]
            simp [h1]
      · obtain ⟨sa, hDl⟩ := p
        rw [ti_len, List.take_length] at hDl
        refine ⟨D2, _, rfl, .inl ⟨.inl (.inl hDl), fun l hl => ?_⟩⟩
        have sn : Same H7 (upd H7 l (.tup (ti (ls.filter fun x => !decide (x = -1))))) := Same.new hl
        have sall := ((s4.trans s5).trans s6).trans (sa.trans sn)
        exact q _ (ExtN.trans (ExtN.of s1) (ExtN.trans e2 (ExtN.trans e3 (ExtN.of sall)))) (T3.ext sall) l (SqT.of upd_same)
end
end Eo
set_option maxHeartbeats 2000000
namespace Eo
/-! ### plain law: the inverse of a column, in the open -/
def prv (m p : Nat) : Nat := (p + m - 1) % m
theorem prv_lt {m p : Nat} (h : 0 < m) : prv m p < m := Nat.mod_lt _ h
theorem prv_pos {m p : Nat} (h0 : 0 < p) (h : p < m) : prv m p = p - 1 := by
  unfold prv
  rw [show p + m - 1 = (p - 1) + m by omega, Nat.add_mod_right]
  exact Nat.mod_eq_of_lt (by omega)
theorem prv_zero {m : Nat} (h : 0 < m) : prv m 0 = m - 1 := by
  unfold prv
  rw [Nat.zero_add]
  exact Nat.mod_eq_of_lt (by omega)
theorem range_prv (n : Nat) : (List.range (n + 1)).map (prv (n + 1)) = n :: List.range n := by
  rw [List.range_succ_eq_map, List.map_cons, prv_zero (Nat.succ_pos n), List.map_map]
  congr 1
  refine (List.map_congr_left (g := fun j => j) fun j hj => ?_).trans (List.map_id _)
  show prv (n + 1) (j + 1) = j
  rw [prv_pos (Nat.succ_pos j) (by have := List.mem_range.mp hj; omega)]
  rfl
theorem prv_perm {m : Nat} (h : 0 < m) : (List.range m).map (prv m) |>.Perm (List.range m) := by
  obtain ⟨n, rfl⟩ : ∃ n, m = n + 1 := ⟨m - 1, by omega⟩
  rw [range_prv, List.range_succ]
  exact (List.perm_append_singleton n (List.range n)).symm
section
variable {m : Nat} {P : List Nat} (hP : P.Perm (List.range m))
include hP
theorem P_len : P.length = m := by rw [hP.length_eq, List.length_range]
theorem P_lt {p : Nat} (h : p ∈ P) : p < m := List.mem_range.mp (hP.mem_iff.mp h)
theorem P_mem {p : Nat} (h : p < m) : p ∈ P := hP.mem_iff.mpr (List.mem_range.mpr h)
theorem P_nd : P.Nodup := hP.nodup_iff.mpr List.nodup_range
theorem P_get {i : Nat} (h : i < m) : P[i]? = some (P.getD i 0) := by
  have : i < P.length := by rw [P_len hP]; exact h
  simp [this]
theorem P_getlt {i : Nat} (h : i < m) : P.getD i 0 < m := P_lt hP (List.mem_of_getElem? (P_get hP h))
theorem P_idx {p : Nat} (h : p < m) : P.idxOf p < m ∧ P.getD (P.idxOf p) 0 = p := by
  have h1 := List.idxOf_lt_length_of_mem (P_mem hP h)
  have h2 := List.getElem_idxOf h1
  rw [P_len hP] at h1
  refine ⟨h1, ?_⟩
  have h3 : P.idxOf p < P.length := by rw [P_len hP]; exact h1
  simp [h3, h2]
theorem P_idx_get {i : Nat} (h : i < m) : P.idxOf (P.getD i 0) = i := by
  have h3 : i < P.length := by rw [P_len hP]; exact h
  have := (P_nd hP).idxOf_getElem i h3
  simpa [h3] using this
theorem P_map : (List.range m).map (fun i => P.getD i 0) = P := by
  refine List.ext_getElem (by rw [List.length_map, List.length_range, P_len hP]) fun i h1 h2 => ?_
  simp [h2]
/-- the sorted column's order takes every place to the one before it -/
theorem ord_prv {R : Nat → Nat → Prop} {W : Nat → Int} {ord : List Nat} (hm : 0 < m) (hs : P.Pairwise R) (asy : ∀ a b, R a b → ¬ R b a) (hprv : ∀ p q, p < m → q < m → (W p < W q ∨ (W p = W q ∧ R p q)) → R (prv m p) (prv m q))
    (ho : ord.Perm (List.range m)) (hos : ord.Pairwise fun i j => W (P.getD i 0) < W (P.getD j 0) ∨ (W (P.getD i 0) = W (P.getD j 0) ∧ i ≤ j)) : ord.map (fun i => prv m (P.getD i 0)) = P := by
  have h1 : (ord.map (fun i => prv m (P.getD i 0))).Perm P := by
    refine (ho.map _).trans ?_
    have e : (List.range m).map (fun i => prv m (P.getD i 0)) = P.map (prv m) := by
      conv => rhs; rw [← P_map hP]
      rw [List.map_map]
      rfl
    rw [e]
    exact ((hP.map _).trans (prv_perm hm)).trans hP.symm
  refine List.Perm.eq_of_pairwise (le := R) (fun a b _ _ x y => absurd y (asy a b x)) ?_ hs h1
  rw [List.pairwise_map]
  have hnd : ord.Nodup := ho.nodup_iff.mpr List.nodup_range
  have hlt : ∀ i ∈ ord, i < m := fun i hi => List.mem_range.mp (ho.mem_iff.mp hi)
  have hboth : ord.Pairwise fun i j => i ≠ j ∧ (W (P.getD i 0) < W (P.getD j 0) ∨ (W (P.getD i 0) = W (P.getD j 0) ∧ i ≤ j)) := (List.nodup_iff_pairwise_ne.mp hnd).and hos
  refine List.Pairwise.imp_of_mem ?_ hboth
  intro i j hi hj q
  refine hprv _ _ (P_getlt hP (hlt i hi)) (P_getlt hP (hlt j hj)) ?_
  rcases q.2 with z | ⟨z1, z2⟩
  · exact .inl z
  · refine .inr ⟨z1, ?_⟩
    have hij : i < j := Nat.lt_of_le_of_ne z2 q.1
    have hj2 : j < P.length := by rw [P_len hP]; exact hlt j hj
    have hi2 : i < P.length := by omega
    have := List.pairwise_iff_getElem.mp hs i j hi2 hj2 hij
    simpa [hi2, hj2] using this
/-- .. so the steps take every row to that of the place before it -/
theorem steps_prv {ord st : List Nat} (hst : st = (List.range m).map fun a => ord.idxOf a) (ho : ord.Perm (List.range m)) (he : ord.map (fun i => prv m (P.getD i 0)) = P) {i : Nat} (hi : i < m) : ∃ s, st[i]? = some s ∧ s < m ∧ P.getD s 0 = prv m (P.getD i 0) := by
  obtain ⟨h1, h2⟩ := P_idx ho hi
  refine ⟨ord.idxOf i, by rw [hst]; simp [hi], h1, ?_⟩
  have h3 : ord.idxOf i < ord.length := by rw [P_len ho]; exact h1
  have h4 : ord[ord.idxOf i] = i := List.getElem_idxOf h3
  conv => lhs; rw [← he]
  simp [h3, h4]
/-- a ring's row -/
def rowL (m : Nat) (P : List Nat) (p0 : Nat) : List Nat := (List.range m).map fun j => P.idxOf ((p0 + m - j) % m)
omit hP in
theorem back_mod {m p0 j : Nat} (hp : p0 < m) (hj : j < m) : prv m ((p0 + m - j) % m) = (p0 + m - (j + 1)) % m := by
  by_cases h : j ≤ p0
  · rw [show p0 + m - j = (p0 - j) + m by omega, Nat.add_mod_right, Nat.mod_eq_of_lt (by omega)]
    by_cases h0 : p0 - j = 0
    · rw [h0, prv_zero (by omega), show p0 + m - (j + 1) = m - 1 by omega, Nat.mod_eq_of_lt (by omega)]
    · rw [prv_pos (by omega) (by omega), show p0 + m - (j + 1) = (p0 - j - 1) + m by omega, Nat.add_mod_right, Nat.mod_eq_of_lt (by omega)]
  · rw [Nat.mod_eq_of_lt (show p0 + m - j < m by omega), prv_pos (by omega) (by omega), show p0 + m - (j + 1) = p0 + m - j - 1 by omega, Nat.mod_eq_of_lt (by omega)]
omit hP in
theorem back_ne {m p0 j : Nat} (hp : p0 < m) (h0 : 0 < j) (hj : j < m) : (p0 + m - j) % m ≠ p0 := by
  by_cases h : j ≤ p0
  · rw [show p0 + m - j = (p0 - j) + m by omega, Nat.add_mod_right, Nat.mod_eq_of_lt (by omega)]
    omega
  · rw [Nat.mod_eq_of_lt (show p0 + m - j < m by omega)]
    omega
theorem row_get {p0 j x : Nat} (hm : 0 < m) (h : (rowL m P p0)[j]? = some x) : j < m ∧ x < m ∧ P.getD x 0 = (p0 + m - j) % m ∧ x = P.idxOf ((p0 + m - j) % m) := by
  have hj : j < m := by
    have := (List.getElem?_eq_some_iff.mp h).1
    unfold rowL at this
    rwa [List.length_map, List.length_range] at this
  have e : x = P.idxOf ((p0 + m - j) % m) := by
    unfold rowL at h
    simp [hj] at h
    exact h.symm
  have z := P_idx hP (Nat.mod_lt (p0 + m - j) hm)
  rw [← e] at z
  exact ⟨hj, z.1, z.2, e⟩
theorem row_cyc {st : List Nat} {at_ : Nat} (hm : 0 < m) (hat : at_ < m) (hst : ∀ i, i < m → ∃ s, st[i]? = some s ∧ s < m ∧ P.getD s 0 = prv m (P.getD i 0)) : Cyc st at_ (rowL m P (P.getD at_ 0)) := by
  have hp := P_getlt hP hat
  have hl : (rowL m P (P.getD at_ 0)).length = m := by unfold rowL; rw [List.length_map, List.length_range]
  have step : ∀ j x, (rowL m P (P.getD at_ 0))[j]? = some x → ∃ s, st[x]? = some s ∧ s < m ∧ P.getD s 0 = (P.getD at_ 0 + m - (j + 1)) % m := by
    intro j x h
    obtain ⟨hj, hx, e1, _⟩ := row_get hP hm h
    obtain ⟨s, h1, h2, h3⟩ := hst x hx
    exact ⟨s, h1, h2, by rw [h3, e1, back_mod hp hj]⟩
  refine ⟨by rw [hl]; exact hm, ?_, fun j x y hx hy => ?_, fun x hx => ?_⟩
  · unfold rowL
    simp only [List.getElem?_map, List.getElem?_range hm, Option.map_some, Nat.sub_zero, Nat.add_mod_right, Nat.mod_eq_of_lt hp]
    rw [P_idx_get hP hat]
  · obtain ⟨s, h1, h2, h3⟩ := step j x hx
    obtain ⟨hj, hy2, e1, e2⟩ := row_get hP hm hy
    have es : s = y := by
      rw [← P_idx_get hP h2, h3, ← e2]
    subst es
    refine ⟨h1, fun z => ?_⟩
    subst z
    exact back_ne hp (Nat.succ_pos j) hj h3.symm
  · obtain ⟨s, h1, h2, h3⟩ := step _ x hx
    rw [hl] at h3
    have e : (P.getD at_ 0 + m - (m - 1 + 1)) % m = P.getD at_ 0 := by
      rw [show P.getD at_ 0 + m - (m - 1 + 1) = P.getD at_ 0 by omega, Nat.mod_eq_of_lt hp]
    rw [e] at h3
    have es : s = at_ := by
      rw [← P_idx_get hP h2, h3, P_idx_get hP hat]
    rw [h1, es]
theorem row_lt {p0 : Nat} (hm : 0 < m) : ∀ x ∈ rowL m P p0, x < m := fun x hx => by
  obtain ⟨j, hj, e⟩ := List.mem_iff_getElem.mp hx
  exact (row_get hP hm (j := j) (x := x) (by rw [List.getElem?_eq_getElem hj, e])).2.1
theorem row_places {p0 : Nat} (hm : 0 < m) : (rowL m P p0).map (fun x => P.getD x 0) = (List.range m).map fun j => (p0 + m - j) % m := by
  unfold rowL
  rw [List.map_map]
  refine List.map_congr_left fun j hj => ?_
  exact (P_idx hP (Nat.mod_lt (p0 + m - j) hm)).2
end
end Eo
set_option maxHeartbeats 2000000
namespace Eo
open PySem (Str)
/-! ### plain law: ends and their order -/
/-- how many rows a column has -/
def rowsN (k : Str) (t : List Int) : Nat := if k = "ring" then t.length else t.length + 1
theorem lt_of_le_ne {a b : List Int} (h : a ≤ b) (n : a ≠ b) : a < b := by
  by_cases z : a < b
  · exact z
  · exact absurd (List.le_antisymm h (List.not_lt.mp z)) n
theorem snoc_lt : ∀ {a b : List Int} {x : Int}, a.length = b.length → a ++ [x] < b ++ [x] → a < b
  | [], [], x, _, h => by
    simp at h
  | [], _ :: _, _, h, _ => by simp at h
  | _ :: _, [], _, h, _ => by simp at h
  | c :: a, d :: b, x, hl, h => by
    rw [List.cons_append, List.cons_append, List.cons_lt_cons_iff] at h
    rw [List.cons_lt_cons_iff]
    rcases h with h | ⟨h1, h2⟩
    · exact .inl h
    · exact .inr ⟨h1, snoc_lt (by simpa using hl) h2⟩
section
variable {k : Str} {t : List Int}
theorem endL_ring (p : Nat) : endL "ring" t p = t.drop p ++ t.take p := if_pos rfl
theorem endL_last (h : k = "last") (p : Nat) : endL k t p = t.drop p ++ [PASTI] := by
  subst h
  rw [endL, if_neg (by decide +kernel), if_pos rfl]
theorem endL_first (h : k = "first") (p : Nat) : endL k t p = t.drop p := by
  subst h
  rw [endL, if_neg (by decide +kernel), if_neg (by decide +kernel)]
theorem kinds_cases (h : k ∈ kinds) : k = "first" ∨ k = "last" ∨ k = "ring" := by
  rcases List.mem_cons.mp h with e | h
  · exact .inl e
  · rcases List.mem_cons.mp h with e | h
    · exact .inr (.inl e)
    · rcases List.mem_cons.mp h with e | h
      · exact .inr (.inr e)
      · cases h
theorem first_ne : ¬ (("first" : Str) = "ring") := by decide +kernel
theorem last_ne : ¬ (("last" : Str) = "ring") := by decide +kernel
theorem last_nf : ¬ (("last" : Str) = "first") := by decide +kernel
theorem first_nl : ¬ (("first" : Str) = "last") := by decide +kernel
theorem ring_nf : ¬ (("ring" : Str) = "first") := by decide +kernel
theorem ring_nl : ¬ (("ring" : Str) = "last") := by decide +kernel
/-- a ring's end as a row of letters -/
def rotL (t : List Int) (p : Nat) : List Int := (List.range t.length).map fun i => t.getD ((p + i) % t.length) 0
theorem rot_eq {p : Nat} (hp : p ≤ t.length) : t.drop p ++ t.take p = rotL t p := by
  unfold rotL
  refine List.ext_getElem (by simp; omega) fun i h1 h2 => ?_
  have hi : i < t.length := by simpa using h2
  rw [List.getElem_map, List.getElem_range]
  by_cases h : i < t.length - p
  · rw [List.getElem_append_left (by rw [List.length_drop]; exact h), List.getElem_drop, Nat.mod_eq_of_lt (by omega)]
    simp [show p + i < t.length by omega]
  · rw [List.getElem_append_right (by rw [List.length_drop]; omega), List.getElem_take]
    have e : (p + i) % t.length = i - (t.drop p).length := by
      rw [List.length_drop, show p + i = (i - (t.length - p)) + t.length by omega, Nat.add_mod_right, Nat.mod_eq_of_lt (by omega)]
    rw [e]
    have : i - (t.drop p).length < t.length := by rw [List.length_drop]; omega
    simp only [List.getD_eq_getElem?_getD, List.getElem?_eq_getElem this, Option.getD_some]
theorem endR {p : Nat} (hp : p ≤ t.length) : endL "ring" t p = rotL t p := by rw [endL_ring, rot_eq hp]
theorem rotL_at {p i : Nat} (hi : i < t.length) : (rotL t p)[i]? = some (t.getD ((p + i) % t.length) 0) := by
  unfold rotL
  simp [hi]
/-- not repeated: all the ends of a ring differ -/
theorem ring_inj (nr : ¬ rep "ring" t) {p q : Nat} (hp : p < t.length) (hq : q < t.length) (e : endL "ring" t p = endL "ring" t q) : p = q := by
  -- p < q is absurd
  have key : ∀ {p q : Nat}, p < q → q < t.length → rotL t p = rotL t q → False := by
    intro p q hpq hq e
    refine nr ⟨rfl, ?_⟩
    have hn : 0 < t.length := by omega
    have e2 : rotL t (q - p) = rotL t 0 := by
      refine List.ext_getElem? fun i => ?_
      by_cases hi : i < t.length
      · have hi2 : (i + (t.length - p)) % t.length < t.length := Nat.mod_lt _ hn
        have z := congrArg (fun l => l[(i + (t.length - p)) % t.length]?) e
        simp only [rotL_at hi2] at z
        rw [rotL_at hi, rotL_at hi]
        have a1 : (q + (i + (t.length - p)) % t.length) % t.length = (q - p + i) % t.length := by
          rw [Nat.add_mod_mod, show q + (i + (t.length - p)) = (q - p + i) + t.length by omega, Nat.add_mod_right]
        have a2 : (p + (i + (t.length - p)) % t.length) % t.length = (0 + i) % t.length := by
          rw [Nat.add_mod_mod, show p + (i + (t.length - p)) = (0 + i) + t.length by omega, Nat.add_mod_right]
        rw [a1, a2] at z
        exact z.symm
      · have l1 : (rotL t (q - p)).length = t.length := by simp [rotL]
        have l2 : (rotL t 0).length = t.length := by simp [rotL]
        rw [List.getElem?_eq_none (by omega), List.getElem?_eq_none (by omega)]
    rw [endR (Nat.zero_le _), ← e2]
    refine List.mem_iff_getElem?.mpr ⟨q - p - 1, ?_⟩
    rw [List.getElem?_drop, List.getElem?_map, List.getElem?_range (by omega)]
    show some (endL "ring" t (1 + (q - p - 1))) = _
    rw [show 1 + (q - p - 1) = q - p by omega, endR (by omega)]
  rw [endR (by omega), endR (by omega)] at e
  rcases Nat.lt_trichotomy p q with h | h | h
  · exact (key h hq e).elim
  · exact h
  · exact (key h hp e.symm).elim
theorem end_inj (hk : k ∈ kinds) (nr : ¬ rep k t) {p q : Nat} (hp : p < t.length) (hq : q < t.length) (e : endL k t p = endL k t q) : p = q := by
  rcases kinds_cases hk with h | h | h
  · rw [endL_first h, endL_first h] at e
    have := congrArg List.length e
    rw [List.length_drop, List.length_drop] at this
    omega
  · rw [endL_last h, endL_last h] at e
    have := congrArg List.length e
    simp only [List.length_append, List.length_drop, List.length_cons, List.length_nil] at this
    omega
  · subst h
    exact ring_inj nr hp hq e
/-- the rows' order -/
def endLt (k : Str) (t : List Int) (p q : Nat) : Prop := endL k t p < endL k t q
theorem endLt_asymm (p q : Nat) (h : endLt k t p q) : ¬ endLt k t q p := List.lt_asymm h
theorem places_sorted (hk : k ∈ kinds) (nr : ¬ rep k t) : (placesL k t).Pairwise (endLt k t) := by
  have h1 : (placesL k t).Pairwise fun a b => decide (endL k t a ≤ endL k t b) = true := by
    unfold placesL
    refine List.pairwise_mergeSort (fun a b c x y => ?_) (fun a b => ?_) _
    · exact decide_eq_true (List.le_trans (of_decide_eq_true x) (of_decide_eq_true y))
    · rw [Bool.or_eq_true, decide_eq_true_eq, decide_eq_true_eq]
      exact List.le_total _ _
  have h2 : (placesL k t).Nodup := by
    unfold placesL
    exact (List.mergeSort_perm _ _).nodup_iff.mpr List.nodup_range
  refine List.Pairwise.imp_of_mem ?_ ((List.nodup_iff_pairwise_ne.mp h2).and h1)
  intro a b ha hb q
  exact lt_of_le_ne (of_decide_eq_true q.2) fun e => q.1 (end_inj hk nr (placesL_mem.mp ha) (placesL_mem.mp hb) e)
theorem whole_perm (hk : k ∈ kinds) : (wholeL k t).Perm (List.range (rowsN k t)) := by
  have h1 : (placesL k t).Perm (List.range t.length) := List.mergeSort_perm _ _
  rcases kinds_cases hk with h | h | h <;> subst h
  · unfold wholeL rowsN
    rw [if_neg first_ne, if_pos rfl, if_neg first_ne, List.range_succ]
    exact (h1.cons _).trans (List.perm_append_singleton _ _).symm
  · unfold wholeL rowsN
    rw [if_neg last_ne, if_neg last_nf, if_neg last_ne, List.range_succ]
    exact h1.append_right _
  · unfold wholeL rowsN
    rw [if_pos rfl, if_pos rfl]
    exact h1
theorem drop_cons {p : Nat} (hp : p < t.length) : t.drop p = t.getD p 0 :: t.drop (p + 1) := by
  rw [List.drop_eq_getElem_cons hp]
  simp [hp]
theorem whole_sorted (tx : Tx t) (hk : k ∈ kinds) (nr : ¬ rep k t) : (wholeL k t).Pairwise (endLt k t) := by
  have hs := places_sorted hk nr
  rcases kinds_cases hk with h | h | h <;> subst h
  · unfold wholeL
    rw [if_neg first_ne, if_pos rfl, List.pairwise_cons]
    refine ⟨fun p hp => ?_, hs⟩
    unfold endLt
    rw [endL_first rfl, endL_first rfl, List.drop_length, drop_cons (placesL_mem.mp hp)]
    exact List.nil_lt_cons _ _
  · unfold wholeL
    rw [if_neg last_ne, if_neg last_nf, List.pairwise_append]
    refine ⟨hs, List.pairwise_singleton _ _, fun p hp q hq => ?_⟩
    have e : q = t.length := by simpa using hq
    subst e
    have hpl := placesL_mem.mp hp
    unfold endLt
    rw [endL_last rfl, endL_last rfl, List.drop_length, drop_cons hpl, List.cons_append, List.nil_append, List.cons_lt_cons_iff]
    left
    have e : t.getD p 0 = t[p] := by simp [hpl]
    have := (tx.let_ t[p] (List.getElem_mem hpl)).2
    rw [e, PASTI]
    omega
  · unfold wholeL
    rw [if_pos rfl]
    exact hs
end
end Eo
set_option maxHeartbeats 2000000
namespace Eo
open PySem (Str)
section
variable {k : Str} {t : List Int}
theorem getD_let (tx : Tx t) {p : Nat} (hp : p < t.length) : Let (t.getD p 0) := by
  have e : t.getD p 0 = t[p] := by simp [hp]
  rw [e]
  exact tx.let_ _ (List.getElem_mem hp)
theorem chL_pos {p : Nat} (h : 0 < p) : chL k t p = t.getD (p - 1) 0 := by rw [chL, if_neg (by omega)]
theorem chL_mark (h : ¬ k = "ring") : chL k t 0 = -1 := by rw [chL, if_pos rfl, if_neg h]
theorem chL_ring {p : Nat} (hp : p < t.length) : chL "ring" t p = t.getD (prv t.length p) 0 := by
  by_cases h : p = 0
  · rw [h, prv_zero (by omega), chL, if_pos rfl, if_pos rfl]
  · rw [chL_pos (by omega), prv_pos (by omega) hp]
theorem chL_let (tx : Tx t) {p : Nat} (hp : p ≤ t.length) (h : 0 < p) : Let (chL k t p) := by
  rw [chL_pos h]
  exact getD_let tx (by omega)
theorem chL_letR (tx : Tx t) {p : Nat} (hp : p < t.length) : Let (chL "ring" t p) := by
  rw [chL_ring hp]
  exact getD_let tx (prv_lt (by omega))
theorem wrt_let {x : Int} (h : Let x) : wrt k x = x := by
  rw [wrt, if_neg]
  rintro ⟨h1, _⟩
  have := h.1
  omega
theorem ring_prv {p : Nat} (hp : p < t.length) : ∃ u, endL "ring" t (prv t.length p) = chL "ring" t p :: u ∧ endL "ring" t p = u ++ [chL "ring" t p] ∧ u.length + 1 = t.length := by
  by_cases h : p = 0
  · subst h
    have e : chL "ring" t 0 = t.getD (t.length - 1) 0 := by rw [chL, if_pos rfl, if_pos rfl]
    refine ⟨t.take (t.length - 1), ?_, ?_, by rw [List.length_take]; omega⟩
    · rw [prv_zero hp, endL_ring, drop_cons (show t.length - 1 < t.length by omega), e, show t.length - 1 + 1 = t.length by omega, List.drop_length]
      rfl
    · rw [endL_ring, e, List.drop_zero, List.take_zero, List.append_nil]
      have z := List.take_append_drop (t.length - 1) t
      rw [drop_cons (show t.length - 1 < t.length by omega), show t.length - 1 + 1 = t.length by omega, List.drop_length] at z
      exact z.symm
  · have h0 : 0 < p := by omega
    have e : chL "ring" t p = t.getD (p - 1) 0 := chL_pos h0
    refine ⟨t.drop p ++ t.take (p - 1), ?_, ?_, by rw [List.length_append, List.length_drop, List.length_take]; omega⟩
    · rw [prv_pos h0 hp, endL_ring, drop_cons (show p - 1 < t.length by omega), e, show p - 1 + 1 = p by omega]
      rfl
    · rw [endL_ring, e, List.append_assoc]
      congr 1
      have z : t.take p = t.take (p - 1) ++ [t.getD (p - 1) 0] := by
        have h2 : p - 1 < t.length := by omega
        have h3 : p = (p - 1) + 1 := by omega
        conv => lhs; rw [h3]
        rw [List.take_succ, List.getElem?_eq_getElem h2]
        simp [h2]
      exact z
/-- the order of rows, by the letters ahead of them -/
theorem end_prv (tx : Tx t) (hk : k ∈ kinds) (p q : Nat) (hp : p < rowsN k t) (hq : q < rowsN k t) (h : wrt k (chL k t p) < wrt k (chL k t q) ∨ (wrt k (chL k t p) = wrt k (chL k t q) ∧ endLt k t p q)) : endLt k t (prv (rowsN k t) p) (prv (rowsN k t) q) := by
  have irr : ¬ endLt k t 0 0 := fun z => endLt_asymm 0 0 z z
  rcases kinds_cases hk with e | e | e <;> subst e
  · have em : rowsN "first" t = t.length + 1 := if_neg first_ne
    rw [em] at hp hq ⊢
    have w0 : wrt "first" (chL "first" t 0) = -1 := by rw [chL_mark first_ne, wrt, if_neg fun z => first_nl z.2]
    have wp : ∀ p, 0 < p → p < t.length + 1 → wrt "first" (chL "first" t p) = t.getD (p - 1) 0 ∧ 0 ≤ t.getD (p - 1) 0 := fun p h0 hp => by
      have z := chL_let (k := "first") tx (show p ≤ t.length by omega) h0
      rw [wrt_let z]
      rw [chL_pos h0] at z ⊢
      exact ⟨rfl, z.1⟩
    have ep : ∀ p, 0 < p → p < t.length + 1 → endL "first" t (prv (t.length + 1) p) = t.getD (p - 1) 0 :: endL "first" t p := fun p h0 hp => by
      rw [prv_pos h0 hp, endL_first rfl, endL_first rfl, drop_cons (show p - 1 < t.length by omega), show p - 1 + 1 = p by omega]
    have e0 : endL "first" t (prv (t.length + 1) 0) = [] := by rw [prv_zero (by omega), endL_first rfl, show t.length + 1 - 1 = t.length by omega, List.drop_length]
    unfold endLt
    by_cases p0 : p = 0
    · by_cases q0 : q = 0
      · subst p0
        subst q0
        rcases h with h | h
        · exact absurd h (Int.lt_irrefl _)
        · exact absurd h.2 irr
      · subst p0
        rw [e0, ep q (by omega) hq]
        exact List.nil_lt_cons _ _
    · obtain ⟨w1, w2⟩ := wp p (by omega) hp
      by_cases q0 : q = 0
      · subst q0
        rw [w0, w1] at h
        omega
      · obtain ⟨w3, w4⟩ := wp q (by omega) hq
        rw [w1, w3] at h
        rw [ep p (by omega) hp, ep q (by omega) hq, List.cons_lt_cons_iff]
        exact h
  · have em : rowsN "last" t = t.length + 1 := if_neg last_ne
    rw [em] at hp hq ⊢
    have w0 : wrt "last" (chL "last" t 0) = PASTI := by rw [chL_mark last_ne, wrt, if_pos ⟨rfl, rfl⟩]
    have wp : ∀ p, 0 < p → p < t.length + 1 → wrt "last" (chL "last" t p) = t.getD (p - 1) 0 ∧ t.getD (p - 1) 0 < PASTI := fun p h0 hp => by
      have z := chL_let (k := "last") tx (show p ≤ t.length by omega) h0
      rw [wrt_let z]
      rw [chL_pos h0] at z ⊢
      have := z.2
      exact ⟨rfl, by unfold PASTI; omega⟩
    have ep : ∀ p, 0 < p → p < t.length + 1 → endL "last" t (prv (t.length + 1) p) = t.getD (p - 1) 0 :: endL "last" t p := fun p h0 hp => by
      rw [prv_pos h0 hp, endL_last rfl, endL_last rfl, drop_cons (show p - 1 < t.length by omega), show p - 1 + 1 = p by omega]
      rfl
    have e0 : endL "last" t (prv (t.length + 1) 0) = [PASTI] := by
      rw [prv_zero (by omega), endL_last rfl, show t.length + 1 - 1 = t.length by omega, List.drop_length]
      rfl
    unfold endLt
    by_cases p0 : p = 0
    · subst p0
      by_cases q0 : q = 0
      · subst q0
        rcases h with h | h
        · exact absurd h (Int.lt_irrefl _)
        · exact absurd h.2 irr
      · obtain ⟨w3, w4⟩ := wp q (by omega) hq
        rw [w0, w3] at h
        omega
    · obtain ⟨w1, w2⟩ := wp p (by omega) hp
      by_cases q0 : q = 0
      · subst q0
        rw [e0, ep p (by omega) hp, List.cons_lt_cons_iff]
        exact .inl w2
      · obtain ⟨w3, w4⟩ := wp q (by omega) hq
        rw [w1, w3] at h
        rw [ep p (by omega) hp, ep q (by omega) hq, List.cons_lt_cons_iff]
        exact h
  · have em : rowsN "ring" t = t.length := if_pos rfl
    rw [em] at hp hq ⊢
    rw [wrt_let (chL_letR tx hp), wrt_let (chL_letR tx hq)] at h
    obtain ⟨u, a1, a2, a3⟩ := ring_prv hp
    obtain ⟨v, b1, b2, b3⟩ := ring_prv hq
    unfold endLt at h ⊢
    rw [a1, b1, List.cons_lt_cons_iff]
    rcases h with h | ⟨h1, h2⟩
    · exact .inl h
    · refine .inr ⟨h1, ?_⟩
      rw [a2, b2, h1] at h2
      exact snoc_lt (by omega) h2
/-! ### the column's steps -/
theorem rowsN_pos (tx : Tx t) : 0 < rowsN k t := by
  have := List.length_pos_iff.mpr tx.ne
  unfold rowsN
  split <;> omega
theorem col_len (hk : k ∈ kinds) : (colL k t).length = rowsN k t := by
  rw [colL, List.length_map, P_len (whole_perm hk)]
theorem col_at (hk : k ∈ kinds) {i : Nat} (hi : i < rowsN k t) : (colL k t).getD i 0 = chL k t ((wholeL k t).getD i 0) := by
  have h : i < (wholeL k t).length := by rw [P_len (whole_perm hk)]; exact hi
  simp [colL, h]
theorem ordL_perm (c : List Int) : (ordL k c).Perm (List.range c.length) := List.mergeSort_perm _ _
theorem ordL_sorted (c : List Int) : (ordL k c).Pairwise fun i j => wAt k c i < wAt k c j ∨ (wAt k c i = wAt k c j ∧ i ≤ j) := by
  have h : (ordL k c).Pairwise fun a b => decide (wAt k c a < wAt k c b ∨ (wAt k c a = wAt k c b ∧ a ≤ b)) = true := by
    unfold ordL
    refine List.pairwise_mergeSort (fun a b d x y => ?_) (fun a b => ?_) _
    · have x := of_decide_eq_true x
      have y := of_decide_eq_true y
      refine decide_eq_true ?_
      omega
    · rw [Bool.or_eq_true, decide_eq_true_eq, decide_eq_true_eq]
      omega
  exact h.imp fun z => of_decide_eq_true z
theorem col_steps (tx : Tx t) (hk : k ∈ kinds) (nr : ¬ rep k t) : ∀ i, i < rowsN k t → ∃ s, (stepsL k (colL k t))[i]? = some s ∧ s < rowsN k t ∧ (wholeL k t).getD s 0 = prv (rowsN k t) ((wholeL k t).getD i 0) := by
  have hP := whole_perm (t := t) hk
  have hl := col_len (t := t) hk
  have ho : (ordL k (colL k t)).Perm (List.range (rowsN k t)) := by
    have := ordL_perm (k := k) (colL k t)
    rwa [hl] at this
  have hos : (ordL k (colL k t)).Pairwise fun i j => wrt k (chL k t ((wholeL k t).getD i 0)) < wrt k (chL k t ((wholeL k t).getD j 0)) ∨ (wrt k (chL k t ((wholeL k t).getD i 0)) = wrt k (chL k t ((wholeL k t).getD j 0)) ∧ i ≤ j) := by
    refine List.Pairwise.imp_of_mem ?_ (ordL_sorted (colL k t))
    intro i j hi hj q
    have hi' := P_lt ho hi
    have hj' := P_lt ho hj
    unfold wAt at q
    rw [col_at hk hi', col_at hk hj'] at q
    exact q
  have he := ord_prv (W := fun p => wrt k (chL k t p)) hP (rowsN_pos tx) (whole_sorted tx hk nr) endLt_asymm (fun p q hp hq h => end_prv tx hk p q hp hq h) ho hos
  intro i hi
  exact steps_prv hP (by rw [stepsL, hl]) ho he hi
end
end Eo
set_option maxHeartbeats 2000000
namespace Eo
open PySem (Str)
/-- where the text that is read back begins -/
def beginL (k : Str) (t : List Int) : Nat := if k = "ring" then (placesL k t).getD 0 0 else 0
def dueL (k : Str) (t : List Int) : List Int := t.drop (beginL k t) ++ t.take (beginL k t)
section
variable {k : Str} {t : List Int}
/-- the letters of a column, at their places -/
theorem chars_mark (h : ¬ k = "ring") : (List.range (t.length + 1)).map (chL k t) = -1 :: t := by
  rw [List.range_succ_eq_map, List.map_cons, chL_mark h, List.map_map]
  congr 1
  refine List.ext_getElem (by simp) fun i h1 h2 => ?_
  rw [List.getElem_map, List.getElem_range]
  show chL k t (i + 1) = _
  rw [chL_pos (Nat.succ_pos i)]
  simp [h2]
theorem no_marks {l : List Int} (h : ∀ x ∈ l, Let x) : (l.filter fun x => decide (x = -1)) = [] := by
  rw [List.filter_eq_nil_iff]
  intro x hx z
  have e := of_decide_eq_true z
  have := (h x hx).1
  omega
theorem all_marks {l : List Int} (h : ∀ x ∈ l, Let x) : (l.filter fun x => !decide (x = -1)) = l := by
  rw [List.filter_eq_self]
  intro x hx
  have := (h x hx).1
  have n : ¬ x = -1 := by omega
  simp [n]
theorem col_perm (hk : k ∈ kinds) : (colL k t).Perm ((List.range (rowsN k t)).map (chL k t)) := (whole_perm hk).map _
theorem col_marks (tx : Tx t) (hk : k ∈ kinds) : ((colL k t).filter fun x => decide (x = -1)).length = if k = "ring" then 0 else 1 := by
  have h := ((col_perm (t := t) hk).filter fun x => decide (x = -1)).length_eq
  rw [h]
  by_cases e : k = "ring"
  · subst e
    rw [if_pos rfl, no_marks]
    · rfl
    · intro x hx
      obtain ⟨p, hp, rfl⟩ := List.mem_map.mp hx
      have : p < t.length := by
        have z := List.mem_range.mp hp
        rwa [show rowsN "ring" t = t.length from if_pos rfl] at z
      exact chL_letR tx this
  · rw [if_neg e, show rowsN k t = t.length + 1 from if_neg e, chars_mark e, List.filter_cons_of_pos (by decide), no_marks tx.let_]
    rfl
theorem col_ok (tx : Tx t) (hk : k ∈ kinds) : ColOk (colL k t) := by
  have hl := col_len (t := t) hk
  have hp := rowsN_pos (k := k) tx
  have few := tx.few
  refine ⟨fun z => ?_, ?_, fun x hx => ?_⟩
  · rw [z] at hl
    simp at hl
    omega
  · rw [hl]
    unfold rowsN
    split <;> omega
  · have hx2 := (col_perm hk).mem_iff.mp hx
    obtain ⟨p, hp2, rfl⟩ := List.mem_map.mp hx2
    have hp3 := List.mem_range.mp hp2
    by_cases e : k = "ring"
    · subst e
      rw [show rowsN "ring" t = t.length from if_pos rfl] at hp3
      exact .inl (chL_letR tx hp3)
    · rw [show rowsN k t = t.length + 1 from if_neg e] at hp3
      by_cases h0 : p = 0
      · subst h0
        exact .inr (chL_mark e)
      · exact .inl (chL_let tx (by omega) (by omega))
theorem col_whole (tx : Tx t) (hk : k ∈ kinds) (nr : ¬ rep k t) : Whole k (colL k t) := by
  have hl := col_len (t := t) hk
  have hp := rowsN_pos (k := k) tx
  have hm := col_marks tx hk
  have few := tx.few
  have ne := List.length_pos_iff.mpr tx.ne
  refine ⟨col_ok tx hk, hm, ?_, ?_, rowL (rowsN k t) (wholeL k t) ((wholeL k t).getD 0 0), row_cyc (whole_perm hk) hp hp (col_steps tx hk nr), ?_⟩
  · rw [hm, hl]
    unfold rowsN
    split <;> omega
  · rw [hm, hl]
    unfold rowsN
    split <;> omega
  · rw [hl]
    unfold rowL
    rw [List.length_map, List.length_range]
/-- the letters read along the ring, turned -/
theorem read_back {m p0 : Nat} {f : Nat → Int} (hm : 0 < m) (hp : p0 < m) : ((List.range m).map fun j => f ((p0 + m - j) % m)).reverse = (List.range m).map fun i => f ((p0 + i + 1) % m) := by
  refine List.ext_getElem (by simp) fun i h1 h2 => ?_
  have hi : i < m := by simpa using h2
  rw [List.getElem_reverse, List.getElem_map, List.getElem_map, List.getElem_range, List.getElem_range]
  simp only [List.length_map, List.length_range]
  rw [show p0 + m - (m - 1 - i) = p0 + i + 1 by omega]
theorem at_start (tx : Tx t) (hk : k ∈ kinds) : at0 k (colL k t) < rowsN k t ∧ (wholeL k t).getD (at0 k (colL k t)) 0 = if k = "ring" then beginL k t else t.length := by
  have hl := col_len (t := t) hk
  have hp := rowsN_pos (k := k) tx
  rcases kinds_cases hk with e | e | e <;> subst e
  · unfold at0
    rw [if_neg first_nl, if_neg first_ne]
    refine ⟨hp, ?_⟩
    unfold wholeL
    rw [if_neg first_ne, if_pos rfl]
    rfl
  · unfold at0
    rw [if_pos rfl, if_neg last_ne, hl]
    refine ⟨by omega, ?_⟩
    unfold wholeL rowsN
    rw [if_neg last_ne, if_neg last_ne, if_neg last_nf]
    have := placesL_len "last" t
    simp only [List.getD_eq_getElem?_getD]
    rw [List.getElem?_append_right (by omega), this]
    simp
  · unfold at0
    rw [if_neg ring_nl, if_pos rfl]
    refine ⟨hp, ?_⟩
    unfold wholeL beginL
    rw [if_pos rfl, if_pos rfl]
theorem begin_lt (tx : Tx t) : beginL k t < t.length := by
  have ne := List.length_pos_iff.mpr tx.ne
  unfold beginL
  split
  · have h : 0 < (placesL k t).length := by rw [placesL_len]; exact ne
    have e : (placesL k t).getD 0 0 = (placesL k t)[0] := by simp [h]
    rw [e]
    exact placesL_mem.mp (List.getElem_mem h)
  · exact ne
theorem due_let (tx : Tx t) : ∀ x ∈ dueL k t, Let x := fun x hx => by
  rcases List.mem_append.mp hx with z | z
  · exact tx.let_ x (List.mem_of_mem_drop z)
  · exact tx.let_ x (List.mem_of_mem_take z)
theorem due_len : (dueL k t).length = t.length := by
  unfold dueL
  rw [List.length_append, List.length_drop, List.length_take]
  omega
theorem due_tx (tx : Tx t) : Tx (dueL k t) := ⟨fun z => by
  have := congrArg List.length z
  rw [due_len] at this
  exact tx.ne (List.length_eq_zero_iff.mp this), by rw [due_len]; exact tx.few, due_let tx⟩
theorem due_plain (h : ¬ k = "ring") : dueL k t = t := by
  unfold dueL beginL
  rw [if_neg h, List.drop_zero, List.take_zero, List.append_nil]
theorem col_row (tx : Tx t) (hk : k ∈ kinds) (nr : ¬ rep k t) : ∃ row, Cyc (stepsL k (colL k t)) (at0 k (colL k t)) row ∧ row.length ≤ 61 ∧ (∀ x ∈ row, x < (colL k t).length) ∧ (((row.map fun x => (colL k t).getD x 0).reverse).filter fun x => !decide (x = -1)) = dueL k t := by
  have hl := col_len (t := t) hk
  have hm := rowsN_pos (k := k) tx
  have hP := whole_perm (t := t) hk
  have few := tx.few
  obtain ⟨a1, a2⟩ := at_start (t := t) tx hk
  refine ⟨rowL (rowsN k t) (wholeL k t) ((wholeL k t).getD (at0 k (colL k t)) 0), row_cyc hP hm a1 (col_steps tx hk nr), ?_, fun x hx => ?_, ?_⟩
  · unfold rowL rowsN
    rw [List.length_map, List.length_range]
    split <;> omega
  · rw [hl]
    exact row_lt hP hm x hx
  · have hp0 : (wholeL k t).getD (at0 k (colL k t)) 0 < rowsN k t := P_getlt hP a1
    have e : (rowL (rowsN k t) (wholeL k t) ((wholeL k t).getD (at0 k (colL k t)) 0)).map (fun x => (colL k t).getD x 0) = (List.range (rowsN k t)).map fun j => chL k t (((wholeL k t).getD (at0 k (colL k t)) 0 + rowsN k t - j) % rowsN k t) := by
      have z := congrArg (List.map (chL k t)) (row_places hP (p0 := (wholeL k t).getD (at0 k (colL k t)) 0) hm)
      rw [List.map_map, List.map_map] at z
      refine Eq.trans (List.map_congr_left fun x hx => ?_) z
      exact col_at hk (row_lt hP hm x hx)
    rw [e, read_back hm hp0, a2]
    by_cases h : k = "ring"
    · subst h
      rw [if_pos rfl, show rowsN "ring" t = t.length from if_pos rfl]
      have e2 : (List.range t.length).map (fun i => chL "ring" t ((beginL "ring" t + i + 1) % t.length)) = dueL "ring" t := by
        unfold dueL
        rw [rot_eq (Nat.le_of_lt (begin_lt tx)), rotL]
        refine List.map_congr_left fun i hi => ?_
        have hi := List.mem_range.mp hi
        have hb := begin_lt (k := "ring") tx
        rw [chL_ring (Nat.mod_lt _ (by omega))]
        congr 1
        generalize beginL "ring" t = b at hb
        by_cases h1 : b + i + 1 < t.length
        · rw [Nat.mod_eq_of_lt h1, prv_pos (by omega) h1, Nat.mod_eq_of_lt (by omega)]
          rfl
        · by_cases h2 : b + i + 1 = t.length
          · rw [h2, Nat.mod_self, prv_zero (by omega), Nat.mod_eq_of_lt (by omega)]
            omega
          · rw [show b + i + 1 = (b + i + 1 - t.length) + t.length by omega, Nat.add_mod_right, Nat.mod_eq_of_lt (show b + i + 1 - t.length < t.length by omega), prv_pos (by omega) (by omega)]
            rw [show b + i = (b + i + 1 - t.length - 1) + t.length by omega, Nat.add_mod_right, Nat.mod_eq_of_lt (by omega)]
            omega
      rw [e2]
      exact all_marks (due_let tx)
    · rw [if_neg h, show rowsN k t = t.length + 1 from if_neg h, due_plain h]
      have e2 : (List.range (t.length + 1)).map (fun i => chL k t ((t.length + i + 1) % (t.length + 1))) = -1 :: t := by
        rw [← chars_mark h]
        refine List.map_congr_left fun i hi => ?_
        have hi := List.mem_range.mp hi
        rw [show t.length + i + 1 = i + (t.length + 1) by omega, Nat.add_mod_right, Nat.mod_eq_of_lt hi]
      rw [e2, List.filter_cons_of_neg (by decide), all_marks tx.let_]
/-! ### the text read back has the same column -/
theorem due_end (tx : Tx t) {p : Nat} (hp : p < t.length) : endL "ring" (dueL "ring" t) p = endL "ring" t ((beginL "ring" t + p) % t.length) := by
  have hb := begin_lt (k := "ring") tx
  have hd : dueL "ring" t = rotL t (beginL "ring" t) := by unfold dueL; rw [rot_eq (Nat.le_of_lt hb)]
  rw [endR (by rw [due_len]; omega), endR (Nat.le_of_lt (Nat.mod_lt _ (by omega))), rotL, rotL, due_len]
  refine List.map_congr_left fun i hi => ?_
  rw [hd, List.getD_eq_getElem?_getD, rotL_at (Nat.mod_lt _ (by omega)), Option.getD_some, Nat.add_mod_mod, Nat.mod_add_mod]
  congr 2
  omega
theorem due_nr (tx : Tx t) (hk : k ∈ kinds) (nr : ¬ rep k t) : ¬ rep k (dueL k t) := by
  by_cases h : k = "ring"
  · subst h
    rintro ⟨_, z⟩
    have hb := begin_lt (k := "ring") tx
    obtain ⟨j, hj⟩ := List.mem_iff_getElem?.mp z
    rw [List.getElem?_drop, List.getElem?_map, due_len] at hj
    have hj2 : 1 + j < t.length := by
      by_cases q : 1 + j < t.length
      · exact q
      · rw [List.getElem?_eq_none (by rw [List.length_range]; omega)] at hj
        simp at hj
    rw [List.getElem?_range hj2] at hj
    have e := Option.some.inj hj
    rw [due_end tx hj2, due_end tx (by omega)] at e
    have e2 := ring_inj nr (Nat.mod_lt _ (by omega)) (Nat.mod_lt _ (by omega)) e
    rw [Nat.add_zero, Nat.mod_eq_of_lt hb] at e2
    generalize beginL "ring" t = b at hb e2
    by_cases q : b + (1 + j) < t.length
    · rw [Nat.mod_eq_of_lt q] at e2
      omega
    · rw [show b + (1 + j) = (b + (1 + j) - t.length) + t.length by omega, Nat.add_mod_right, Nat.mod_eq_of_lt (by omega)] at e2
      omega
  · rw [due_plain h]
    exact nr
theorem turn_perm {n b : Nat} (hb : b ≤ n) : ((List.range n).map fun p => (b + p) % n).Perm (List.range n) := by
  have e : (List.range n).map (fun p => (b + p) % n) = (List.range n).drop b ++ (List.range n).take b := by
    refine List.ext_getElem (by simp; omega) fun i h1 h2 => ?_
    have hi : i < n := by simpa using h1
    rw [List.getElem_map, List.getElem_range]
    by_cases h : i < n - b
    · rw [List.getElem_append_left (by rw [List.length_drop, List.length_range]; exact h), List.getElem_drop, List.getElem_range, Nat.mod_eq_of_lt (by omega)]
    · rw [List.getElem_append_right (by rw [List.length_drop, List.length_range]; omega), List.getElem_take, List.getElem_range, List.length_drop, List.length_range, show b + i = (i - (n - b)) + n by omega, Nat.add_mod_right, Nat.mod_eq_of_lt (by omega)]
  rw [e]
  exact (List.perm_append_comm).trans (by rw [List.take_append_drop])
theorem due_places (tx : Tx t) (nr : ¬ rep "ring" t) : (placesL "ring" (dueL "ring" t)).map (fun p => (beginL "ring" t + p) % t.length) = placesL "ring" t := by
  have hk : ("ring" : Str) ∈ kinds := by simp [kinds]
  have hb := begin_lt (k := "ring") tx
  have h1 : (placesL "ring" (dueL "ring" t)).Perm (List.range t.length) := by
    have := List.mergeSort_perm (List.range (dueL "ring" t).length) fun a b => decide (endL "ring" (dueL "ring" t) a ≤ endL "ring" (dueL "ring" t) b)
    rw [due_len] at this
    unfold placesL
    rw [due_len]
    exact this
  have h2 : (placesL "ring" t).Perm (List.range t.length) := List.mergeSort_perm _ _
  refine List.Perm.eq_of_pairwise (le := endLt "ring" t) (fun a b _ _ x y => absurd y (endLt_asymm a b x)) ?_ (places_sorted hk nr) ((h1.map _).trans ((turn_perm (Nat.le_of_lt hb)).trans h2.symm))
  rw [List.pairwise_map]
  refine List.Pairwise.imp_of_mem ?_ (places_sorted hk (due_nr tx hk nr))
  intro p q hp hq z
  have hp2 : p < t.length := by have := placesL_mem.mp hp; rwa [due_len] at this
  have hq2 : q < t.length := by have := placesL_mem.mp hq; rwa [due_len] at this
  unfold endLt at z ⊢
  rw [due_end tx hp2, due_end tx hq2] at z
  exact z
theorem due_col (tx : Tx t) (hk : k ∈ kinds) (nr : ¬ rep k t) : colL k (dueL k t) = colL k t := by
  by_cases h : k = "ring"
  · subst h
    have hb := begin_lt (k := "ring") tx
    have hd : dueL "ring" t = rotL t (beginL "ring" t) := by unfold dueL; rw [rot_eq (Nat.le_of_lt hb)]
    unfold colL wholeL
    rw [if_pos rfl, if_pos rfl, ← due_places tx nr, List.map_map]
    refine List.map_congr_left fun p hp => ?_
    have hp2 : p < t.length := by have := placesL_mem.mp hp; rwa [due_len] at this
    show chL "ring" (dueL "ring" t) p = chL "ring" t ((beginL "ring" t + p) % t.length)
    rw [chL_ring (by rw [due_len]; exact hp2), chL_ring (Nat.mod_lt _ (by omega)), due_len]
    have hq := prv_lt (m := t.length) (p := p) (by omega)
    rw [hd, List.getD_eq_getElem?_getD, rotL_at hq, Option.getD_some]
    congr 1
    generalize beginL "ring" t = b at hb
    by_cases h0 : p = 0
    · subst h0
      rw [prv_zero (by omega), Nat.add_zero, Nat.mod_eq_of_lt hb]
      by_cases b0 : b = 0
      · subst b0
        rw [prv_zero (by omega), Nat.mod_eq_of_lt (by omega)]
        omega
      · rw [prv_pos (by omega) hb, show b + (t.length - 1) = (b - 1) + t.length by omega, Nat.add_mod_right, Nat.mod_eq_of_lt (by omega)]
    · rw [prv_pos (by omega) hp2]
      by_cases q : b + p < t.length
      · rw [Nat.mod_eq_of_lt q, prv_pos (by omega) q, Nat.mod_eq_of_lt (by omega)]
        omega
      · by_cases q2 : b + p = t.length
        · rw [q2, Nat.mod_self, prv_zero (by omega), Nat.mod_eq_of_lt (by omega)]
          omega
        · rw [show b + p = (b + p - t.length) + t.length by omega, Nat.add_mod_right, Nat.mod_eq_of_lt (show b + p - t.length < t.length by omega), prv_pos (by omega) (by omega), show b + (p - 1) = (b + p - t.length - 1) + t.length by omega, Nat.add_mod_right, Nat.mod_eq_of_lt (by omega)]
  · rw [due_plain h]
end
end Eo
set_option maxHeartbeats 4000000
namespace Eo
open PySem PySem.Spec PyProof.Rows L2 LamX
open C8 (pe_gc)
/-- a cup stands at q -/
def CupAt (H : Hp) (q : Addr) : Prop := ∃ a m z : Int, 0 ≤ a ∧ H q = some (.lst (ti [a, m, z]))
section
variable {P : Program} {w : World} {K : PySem.W.Frag} {mg : Str → Option Value} {base : Heap}
/-! ### _law_cup_of -/
def spCup (K : PySem.W.Frag) : Sp := fun vs H Q _ => ∃ (a : Addr) (ns : List Int) (i : Nat), vs = [.ref a, .int (i : Int)] ∧ SqL K H a (ti ns) ∧ ns.length ≤ 1000 ∧ i ≤ 1000 ∧ ∀ H' q, Same H H' → CupAt H' q → H q = none → Q (.ref q) H'
def NCup : List Str := ["_law_script", "_law_turn", "_law_cell", "_law_mixed", "_law_at", "_law_each"]
theorem sc_cup : FnScope NCup ["_law_script", "_law_turn"] (defScope sCupOf) := ⟨rfl, rfl, rfl, by decide +kernel, rfl, by decide +kernel, by decide +kernel⟩
theorem ok_cup (D : Df K mg "_law_cup_of" sCupOf) (G : Gd K mg) : CalE P w K mg base CX0 1 "_law_cup_of" (spCup K) := by
  have nd := sc_cup.nd
  refine D.ok sc_cup (fun _ _ _ _ _ _ us hl => match us, hl with | [_, _], _ => rfl) (fun vs H Q E h => ?_) (fun f cdv A outer s H vs Q E hr h => ?_)
  · obtain ⟨a, ns, i, rfl, _⟩ := h
    rfl
  · refine ⟨_, (pss_cons (ps_par (i := 2) (j := 3) rfl nd rfl rfl (by decide) rfl rfl (pa_cons (pe_ifExp (pt_cmpR op_lt (pv 1) (pe_callB call_len rfl G.b_len (by decide +kernel) (pa_cons (pv 0) pa_nil)) (nomark _)) (pe_ix ix_list (pv 0) (pv 1) (fun _ _ => rfl)) pe_int) (pa_cons (pe_op op_add pe_int (pe_op op_mul pe_int (pv 1))) pa_nil)) (by rfl))
  (pss_cons (ps_for PassesOwn.never rfl (pi_enum rfl G.b_enumerate (pa_cons (pe_slice sl_list (pv 0) po_none (po_some pe_int)) pa_nil)) (pg_tup rfl (pgs_cons (pg_name (i := 4) nd rfl (Or.inl rfl)) (pgs_cons (pg_name (i := 5) nd rfl (Or.inl rfl)) pgs_nil)))
    (pss_one (ps_set (i := 3) nd rfl (Or.inl rfl) (pe_op op_mod (pe_callTy call_int1 rfl G.b_int (by decide +kernel) (pa_cons (pe_op op_add (pe_op op_mul (pv 3) (pe_op op_add pe_int (pe_op op_mul pe_int (pv 4)))) (pe_op op_mul pe_int (pv 5))) pa_nil)) pe_int))))
  (pss_one (ps_ret (pe_lst (pa_cons (pe_ifExp (PW.pt (pw_or (pt_cmpR op_lt (pv 2) pe_int (nomark _)) (pw_or1 (pt_cmpR op_ge (pv 2) (pe_op op_pow pe_int pe_int) (nomark _))))) (pe_callB call_abs rfl G.b_abs (by decide +kernel) (pa_cons (pv 2) pa_nil)) pe_int) (pa_cons (pe_op op_mod (pe_callTy call_int1 rfl G.b_int (by decide +kernel) (pa_cons (pe_op op_add (pv 3) (pe_op op_mul pe_int (pv 2))) pa_nil)) pe_int) (pa_cons pe_int pa_nil)))))))), ?_⟩
    obtain ⟨a, ns, i, rfl, ha, hn, hi, q⟩ := h
    have zl : (2000 : Nat) ≤ sizeLine := by decide
    have key : ∀ R : VK, (∀ cell : Int, R (.int cell) H) → tIf (tTest (tOp (rI0 fun i j => V.bl (decide (i < j))) (tVar 1) (tCB (fun xs H_1 Q => ∃ x n, xs = [x] ∧ LenV K x H_1 n ∧ Q (V.int (n : Int)) H_1) (tCons (tVar 0) tNil)))) (tOp (rIxL K) (tVar 0) (tVar 1)) (tC (V.int 0)) (L2.start NCup [.ref a, .int (i : Int)]) H R := by
      intro R hR
      refine ⟨_, rfl, _, rfl, _, ns.length, rfl, .inl ⟨_, ha, by rw [ti_len]⟩, _, _, rfl, rfl, decide ((i : Int) < (ns.length : Int)), rfl, ?_⟩
      by_cases h1 : (i : Int) < (ns.length : Int)
      · rw [decide_eq_true h1]
        have h2 : i < ns.length := by omega
        exact iteT ⟨_, rfl, _, rfl, a, _, _, .int ns[i], rfl, rfl, ha, atI_nat (by simp [h2]), hR _⟩
      · rw [decide_eq_false h1]
        exact iteF (hR 0)
    refine key _ fun cell => ?_
    refine ⟨_, rfl, _, _, rfl, rfl, .inl (by constructor <;> decide), _, _, rfl, rfl, ?_⟩
    refine ⟨_, _, rfl, ?_⟩
    refine ⟨_, rfl, 6, rfl, ?_⟩
    refine ⟨a, _, rfl, ha, fun p hp => ?_⟩
    have s1 : Same H (upd H p (.lst (cutV (ti ns) none (some 6)))) := Same.new hp
    have e6 : cutV (ti ns) none (some 6) = ti (ns.take 6) := by
      unfold cutV
      rw [show (some (6 : Int)) = some ((6 : Nat) : Int) from rfl, HT.sIx_nat, HT.sIx_none, ti_len, List.drop_zero, Nat.sub_zero, ← List.map_take]
      congr 1
      rw [List.take_eq_take_iff]
      omega
    refine ⟨p, ti (ns.take 6), rfl, .inl (.inl (upd_same.trans (by rw [e6]))), ?_⟩
    refine for_it walk_enum (fun i σ H' => Same H H' ∧ H' p = some (.lst (ti (ns.take 6))) ∧ σ[2]? = some (some (.int cell)) ∧ σ.length = 6 ∧ ∃ m : Int, σ[3]? = some (some (.int m))) ⟨s1, upd_same.trans (by rw [e6]), rfl, rfl, _, rfl⟩ (fun i σ H' _ p => .inl (.inl p.2.1)) (fun i x σ Ha Hb hi pv y => ?_) fun σ H' pv => ?_
    · obtain ⟨sa, hpl, g2, hl, m, g3⟩ := pv
      obtain ⟨T1, u, v, rfl, nT, rfl, eu, ev⟩ := y
      cases eu
      rw [ti_len] at hi
      have hi6 : i < 6 := by
        rw [List.length_take] at hi
        omega
      obtain ⟨each, rfl⟩ : ∃ each : Int, v = .int each := by
        have z : (ti (ns.take 6))[i]? = some (.int (ns.take 6)[i]) := by simp only [ti, List.getElem?_map, List.getElem?_eq_getElem hi, Option.map_some]
        have ev2 : (ti (ns.take 6))[i]? = some v := ev
        rw [z] at ev2
        exact ⟨_, (Option.some.inj ev2).symm⟩
      have e2 : Same Ha (upd Ha T1 (.tup [.int (i : Nat), .int each])) := Same.new nT
      have f2 : ((σ.set 4 (some (.int (i : Nat)))).set 5 (some (.int each)))[2]? = some (some (.int cell)) := by rw [List.getElem?_set_ne (by decide), List.getElem?_set_ne (by decide)]; exact g2
      have f3 : ((σ.set 4 (some (.int (i : Nat)))).set 5 (some (.int each)))[3]? = some (some (.int m)) := by rw [List.getElem?_set_ne (by decide), List.getElem?_set_ne (by decide)]; exact g3
      have f4 : ((σ.set 4 (some (.int (i : Nat)))).set 5 (some (.int each)))[4]? = some (some (.int (i : Nat))) := by rw [List.getElem?_set_ne (by decide), List.getElem?_set_self (by omega)]
      have f5 : ((σ.set 4 (some (.int (i : Nat)))).set 5 (some (.int each)))[5]? = some (some (.int each)) := List.getElem?_set_self (by rw [List.length_set]; omega)
      refine ⟨T1, _, rfl, SqT.of upd_same, rfl, _, _, rfl, ?_⟩
      refine ⟨_, _, rfl, rfl, ?_⟩
      refine ⟨_, f3, _, f4, _, _, rfl, rfl, .inl (by constructor <;> decide), _, _, rfl, rfl, _, _, rfl, rfl, .inr (by constructor <;> omega), ?_⟩
      refine ⟨_, f5, _, _, rfl, rfl, .inl (by constructor <;> decide), _, _, rfl, rfl, .inl ⟨_, rfl, _, _, rfl, rfl, (show (0 : Int) < 2147483269 by decide), ?_⟩⟩
      exact ⟨sa.trans e2, e2 _ _ hpl, by rw [List.getElem?_set_ne (by decide)]; exact f2, by rw [List.length_set, List.length_set, List.length_set]; exact hl, _, List.getElem?_set_self (by rw [List.length_set, List.length_set]; omega)⟩
    · obtain ⟨sa, hpl, g2, hl, m, g3⟩ := pv
      have fin : ∀ x : Int, 0 ≤ x → ∀ d, H' d = none → Q (.ref d) (upd H' d (.lst [.int x, .int ((m + 58031 * cell) % 2147483269), .int 0])) := fun x hx d hd => by
        refine q _ d (sa.trans (Same.new hd)) ⟨x, _, 0, hx, upd_same⟩ ?_
        cases e : H d with
        | none => rfl
        | some o =>
          have z := sa _ _ e
          rw [hd] at z
          cases z
      refine ⟨_, g2, _, _, rfl, rfl, decide (cell < 0), rfl, ?_⟩
      have tail : ∀ x : Int, 0 ≤ x → (tCons (tOp (rI (fun _ j => 0 < j) fun i j => .int (i % j)) (tCB (fun xs H Q => (∃ i, xs = [.int i] ∧ Q (.int i) H) ∨ ∃ k, xs = [.bl k] ∧ Q (.int (if k then 1 else 0)) H) (tCons (tOp (rI0 fun i j => .int (i + j)) (tVar 3) (tOp (rI CMul fun i j => .int (i * j)) (tC (V.int 58031)) (tVar 2))) tNil)) (tC (V.int 2147483269))) (tCons (tC (V.int 0)) tNil)) σ H' (fun xs H_1 => (V.int x :: xs).length ≤ sizeLine ∧ ∀ p, H_1 p = none → Q (.ref p) (upd H_1 p (.lst (V.int x :: xs)))) := by
        intro x hx
        refine ⟨_, g3, _, g2, _, _, rfl, rfl, .inl (by constructor <;> decide), _, _, rfl, rfl, .inl ⟨_, rfl, _, _, rfl, rfl, (show (0 : Int) < 2147483269 by decide), ?_⟩⟩
        refine ⟨by show 3 ≤ sizeLine; omega, fun d hd => fin x hx d hd⟩
      by_cases c1 : cell < 0
      · rw [decide_eq_true c1]
        refine iteT (iteT ⟨_, g2, _, rfl, ?_⟩)
        rw [if_pos c1]
        exact tail _ (by omega)
      · rw [decide_eq_false c1]
        refine iteF ⟨_, g2, _, _, rfl, rfl, ⟨by decide, by decide, by decide⟩, _, _, rfl, rfl, decide ((10 : Int) ^ (15 : Int).toNat ≤ cell), rfl, ?_⟩
        by_cases c2 : (10 : Int) ^ (15 : Int).toNat ≤ cell
        · rw [decide_eq_true c2]
          refine iteT ⟨_, g2, _, rfl, ?_⟩
          rw [if_neg c1]
          exact tail _ (by omega)
        · rw [decide_eq_false c2]
          exact iteF (tail 0 (by omega))
/-! ### _law_sip -/
def spSip (K : PySem.W.Frag) : Sp := fun vs H Q _ => ∃ (q : Addr) (n : Int), vs = [.ref q, .int n] ∧ 0 < n ∧ n ≤ 1000 ∧ CupAt H q ∧ ∀ H' v, SameE q H H' → CupAt H' q → 0 ≤ v → v < n → Q (.int v) H'
def NSip : List Str := ["_law_cup", "_law_many", "_law_got", "_law_base"]
theorem sc_sip : FnScope NSip ["_law_cup", "_law_many"] (defScope sSip) := ⟨rfl, rfl, rfl, by decide +kernel, rfl, by decide +kernel, by decide +kernel⟩
theorem ok_sip (D : Df K mg "_law_sip" sSip) (G : Gd K mg) : CalE P w K mg base CX0 1 "_law_sip" (spSip K) := by
  have nd := sc_sip.nd
  refine D.ok sc_sip (fun _ _ _ _ _ _ us hl => match us, hl with | [_, _], _ => rfl) (fun vs H Q E h => ?_) (fun f cdv A outer s H vs Q E hr h => ?_)
  · obtain ⟨q, n, rfl, _⟩ := h
    rfl
  · refine ⟨_, (pss_cons (ps_if (pt_cmpR op_gt (pe_ix ix_list (pv 0) pe_int (fun _ _ => rfl)) pe_int (nomark _)) (pss_cons (ps_asg (pe_callB call_divmod rfl G.b_divmod (by decide +kernel) (pa_cons (pe_ix ix_list (pv 0) pe_int (fun _ _ => rfl)) (pa_cons (pv 1) pa_nil))) (pg_tup rfl (pgs_cons (pg_sub (pv 0) pe_int set_list) (pgs_cons (pg_name (i := 2) nd rfl (Or.inl rfl)) pgs_nil))))
  (pss_one (ps_ret (pv 2)))) pss_nil)
  (pss_cons (ps_asg (pe_op op_add (pe_ix ix_list (pv 0) pe_int (fun _ _ => rfl)) pe_int) (pg_sub (pv 0) pe_int set_list))
  (pss_cons (ps_set (i := 3) nd rfl (Or.inl rfl) (pe_op op_mod (pe_callTy call_int1 rfl G.b_int (by decide +kernel) (pa_cons (pe_op op_add (pe_ix ix_list (pv 0) pe_int (fun _ _ => rfl)) (pe_op op_mul pe_int (pe_ix ix_list (pv 0) pe_int (fun _ _ => rfl)))) pa_nil)) pe_int))
  (pss_cons (ps_asg (pe_op op_mod (pe_callTy call_int1 rfl G.b_int (by decide +kernel) (pa_cons (pe_op op_add (pe_op op_add (pe_op op_mul (pv 3) (pe_op op_add (pe_op op_mod (pe_callTy call_int1 rfl G.b_int (by decide +kernel) (pa_cons (pv 3) pa_nil)) pe_int) pe_int)) (pe_op op_mul pe_int (pe_ix ix_list (pv 0) pe_int (fun _ _ => rfl)))) pe_int) pa_nil)) pe_int) (pg_sub (pv 0) pe_int set_list))
  (pss_one (ps_ret (pe_op op_mod (pe_op op_fdiv (pe_callTy call_int1 rfl G.b_int (by decide +kernel) (pa_cons (pe_ix ix_list (pv 0) pe_int (fun _ _ => rfl)) pa_nil)) pe_int) (pv 1)))))))), ?_⟩
    obtain ⟨c, n, rfl, n0, n1, ⟨a, m, z, ha, hc⟩, q⟩ := h
    refine ⟨_, rfl, c, _, 0, .int a, rfl, rfl, .inl (.inl hc), rfl, _, _, rfl, rfl, decide (0 < a), rfl, ?_⟩
    by_cases h1 : 0 < a
    · rw [decide_eq_true h1]
      refine iteT ⟨_, rfl, c, _, 0, .int a, rfl, rfl, .inl (.inl hc), rfl, _, rfl, a, n, rfl, ⟨n0, by omega⟩, fun p hp => ?_⟩
      have hne : c ≠ p := ne_of_none hc hp
      have hc2 : (upd H p (.tup [.int (a / n), .int (a % n)])) c = some (.lst (ti [a, m, z])) := by rw [upd_ne hne]; exact hc
      refine ⟨p, _, rfl, SqT.of upd_same, rfl, _, _, rfl, ?_⟩
      refine ⟨_, rfl, c, ti [a, m, z], 0, 0, rfl, rfl, hc2, rfl, ?_⟩
      refine ⟨_, _, rfl, rfl, ?_⟩
      refine ⟨_, rfl, q _ (a % n) ?_ ⟨a / n, m, z, Int.ediv_nonneg ha (Int.le_of_lt n0), upd_same⟩ (Int.emod_nonneg _ (by omega)) (Int.emod_lt_of_pos _ n0)⟩
      exact (SameE.of (Same.new hp)).trans SameE.upd
    · rw [decide_eq_false h1]
      refine iteF ⟨_, rfl, c, _, 2, .int z, rfl, rfl, .inl (.inl hc), rfl, _, _, rfl, rfl, ?_⟩
      refine ⟨_, rfl, c, ti [a, m, z], 2, 2, rfl, rfl, hc, rfl, ?_⟩
      have hc2 : (upd H c (.lst ((ti [a, m, z]).set 2 (.int (z + 1))))) c = some (.lst (ti [a, m, z + 1])) := upd_same
      refine ⟨_, rfl, c, _, 1, .int m, rfl, rfl, .inl (.inl hc2), rfl, ?_⟩
      refine ⟨_, rfl, c, _, 2, .int (z + 1), rfl, rfl, .inl (.inl hc2), rfl, _, _, rfl, rfl, .inl (by constructor <;> decide), _, _, rfl, rfl, .inl ⟨_, rfl, _, _, rfl, rfl, (show (0 : Int) < 2147483269 by decide), ?_⟩⟩
      refine ⟨_, rfl, _, rfl, .inl ⟨_, rfl, _, _, rfl, rfl, (show (0 : Int) < 23017 by decide), _, _, rfl, rfl, _, _, rfl, rfl, .inl (by constructor <;> omega), ?_⟩⟩
      refine ⟨_, rfl, c, _, 2, .int (z + 1), rfl, rfl, .inl (.inl hc2), rfl, _, _, rfl, rfl, .inl (by constructor <;> decide), _, _, rfl, rfl, _, _, rfl, rfl, .inl ⟨_, rfl, _, _, rfl, rfl, (show (0 : Int) < 2147483269 by decide), ?_⟩⟩
      refine ⟨_, rfl, c, ti [a, m, z + 1], 1, 1, rfl, rfl, hc2, rfl, ?_⟩
      have hc3 : ∀ m2 : Int, (upd (upd H c (.lst ((ti [a, m, z]).set 2 (.int (z + 1))))) c (.lst ((ti [a, m, z + 1]).set 1 (.int m2)))) c = some (.lst (ti [a, m2, z + 1])) := fun _ => upd_same
      refine ⟨_, rfl, c, ti [a, _, z + 1], 1, .int _, rfl, rfl, .inl (.inl (hc3 _)), rfl, .inl ⟨_, rfl, _, _, rfl, rfl, ⟨by decide, by decide⟩, _, rfl, _, _, rfl, rfl, n0, ?_⟩⟩
      exact q _ _ (SameE.upd.trans SameE.upd) ⟨a, _, z + 1, ha, hc3 _⟩ (Int.emod_nonneg _ (by omega)) (Int.emod_lt_of_pos _ n0)
/-! ### _law_pick -/
def spPick (K : PySem.W.Frag) : Sp := fun vs H Q _ => ∃ (c l : Addr) (ls : List Int), vs = [.ref c, .ref l] ∧ CupAt H c ∧ c ≠ l ∧ H l = some (.lst (ti ls)) ∧ ls ≠ [] ∧ ls.length ≤ 60 ∧ ∀ H' v, SameE c H H' → CupAt H' c → v ∈ ls → Q (.int v) H'
theorem sc_pick : FnScope ["_law_cup", "_law_menu"] ["_law_cup", "_law_menu"] (defScope sPick) := ⟨rfl, rfl, rfl, by decide +kernel, rfl, by decide +kernel, by decide +kernel⟩
theorem ok_pick (D : Df K mg "_law_pick" sPick) (G : Gd K mg) (C__law_sip : CalE P w K mg base CX0 1 "_law_sip" (spSip K)) : CalE P w K mg base CX0 2 "_law_pick" (spPick K) := by
  refine D.ok sc_pick (fun _ _ _ _ _ _ us hl => match us, hl with | [_, _], _ => rfl) (fun vs H Q E h => ?_) (fun f cdv A outer s H vs Q E hr h => ?_)
  · obtain ⟨q, n, ls, rfl, _⟩ := h
    rfl
  · refine ⟨_, (pss_one (ps_ret (pe_ix ix_list (pv 1) (pe_cal C__law_sip (hr.mono (by decide)) rfl pass0 (pa_cons (pv 0) (pa_cons (pe_callB call_len rfl G.b_len (by decide +kernel) (pa_cons (pv 1) pa_nil)) pa_nil))) (fun _ _ => rfl)))), ?_⟩
    obtain ⟨c, l, ls, rfl, hc, hne, hl, ne, few, q⟩ := h
    have lp := List.length_pos_iff.mpr ne
    refine ⟨_, rfl, _, rfl, _, rfl, _, ls.length, rfl, .inl ⟨_, .inl (.inl hl), by rw [ti_len]⟩, ?_⟩
    refine ⟨c, (ls.length : Int), rfl, by omega, by omega, hc, fun H1 v se hc1 v0 v1 => ?_⟩
    have hl1 := se l _ (Ne.symm hne) hl
    obtain ⟨j, rfl⟩ : ∃ j : Nat, v = (j : Int) := ⟨v.toNat, by omega⟩
    have hj : j < ls.length := by omega
    exact ⟨l, _, _, .int ls[j], rfl, rfl, .inl (.inl hl1), atI_nat (by simp [hj]), q H1 _ se hc1 (List.getElem_mem hj)⟩
end
end Eo
set_option maxHeartbeats 4000000
namespace Eo
open PySem PySem.Spec PyProof.Rows L2 LamX
open C8 (pe_gc)
/-! ### slices of lists of whole numbers -/
def cutI (l : List Int) (lo hi : Option Int) : List Int := (l.drop (HT.sIx l.length 0 lo)).take (HT.sIx l.length l.length hi - HT.sIx l.length 0 lo)
theorem cutV_ti (l : List Int) (lo hi : Option Int) : cutV (ti l) lo hi = ti (cutI l lo hi) := by
  unfold cutV cutI
  rw [ti_len, ti, ti, List.map_take, List.map_drop]
theorem cutI_mem {l : List Int} {lo hi : Option Int} {x : Int} (h : x ∈ cutI l lo hi) : x ∈ l := List.mem_of_mem_drop (List.mem_of_mem_take h)
theorem cutI_take (l : List Int) (n : Nat) : cutI l none (some (n : Int)) = l.take n := by
  unfold cutI
  rw [HT.sIx_nat, HT.sIx_none, List.drop_zero, Nat.sub_zero, List.take_eq_take_iff]
  omega
theorem cutI_drop (l : List Int) (n : Nat) : cutI l (some (n : Int)) none = l.drop n := by
  unfold cutI
  rw [HT.sIx_nat, HT.sIx_none]
  by_cases h : n ≤ l.length
  · rw [Nat.min_eq_left h, List.take_of_length_le (by rw [List.length_drop]; omega)]
  · rw [Nat.min_eq_right (by omega), List.drop_length, List.drop_eq_nil_of_le (by omega), List.take_nil]
theorem rSlL_by {K : PySem.W.Frag} {H : Hp} {a : Addr} {l : List Int} {lo hi : Option Int} {Q : VK} (h : H a = some (.lst (ti l))) (q : ∀ p H', Same H H' → H p = none → H' p = some (.lst (ti (cutI l lo hi))) → Q (.ref p) H') : rSlL K (.ref a) lo hi H Q :=
  ⟨a, _, rfl, .inl (.inl h), fun p hp => q p _ (Same.new hp) hp (upd_same.trans (by rw [cutV_ti]))⟩
theorem samee_lst {c D : Addr} {H1 H : Hp} {xs : List V} (e : SameE c H1 H) (n : H1 D = none) : SameE c H1 (upd H D (.lst xs)) := fun b o nb h => by
  rw [upd_ne (ne_of_none h n)]
  exact e b o nb h
theorem rep_ti (l : List Int) (n : Nat) : (List.replicate n (ti l)).flatten = ti (List.replicate n l).flatten := by
  simp [ti, List.map_flatten, List.map_replicate]
theorem rep_mem {l : List Int} {n : Nat} {x : Int} (h : x ∈ (List.replicate n l).flatten) : x ∈ l := by
  obtain ⟨m, hm, hx⟩ := List.mem_flatten.mp h
  rw [List.eq_of_mem_replicate hm] at hx
  exact hx
section
variable {P : Program} {w : World} {K : PySem.W.Frag} {mg : Str → Option Value} {base : Heap}
/-! ### _law_drawn_line -/
def spDrawn (K : PySem.W.Frag) : Sp := fun vs H Q _ => ∃ c : Addr, vs = [.ref c, .int 30] ∧ CupAt H c ∧ ∀ H' p t, SameE c H H' → CupAt H' c → SqT K H' p (ti t) → t ≠ [] → t.length ≤ 30 → (∀ x ∈ t, Let x) → Q (.ref p) H'
def NDrawn : List Str := ["_law_cup", "_law_most", "_law_many", "_law_way", "_law_some", "_law_found", "_law_part", "_law_k"]
theorem sc_drawn : FnScope NDrawn ["_law_cup", "_law_most"] (defScope sDrawnLine) := ⟨rfl, rfl, rfl, by decide +kernel, rfl, by decide +kernel, by decide +kernel⟩
theorem ok_drawn (D : Df K mg "_law_drawn_line" sDrawnLine) (G : Gd K mg) (C__law_sip : CalE P w K mg base CX0 1 "_law_sip" (spSip K)) (C__law_pick : CalE P w K mg base CX0 2 "_law_pick" (spPick K)) : CalE P w K mg base CX0 3 "_law_drawn_line" (spDrawn K) := by
  have nd := sc_drawn.nd
  refine D.ok sc_drawn (fun _ _ _ _ _ _ us hl => match us, hl with | [_, _], _ => rfl) (fun vs H Q E h => ?_) (fun f cdv A outer s H vs Q E hr h => ?_)
  · obtain ⟨c, rfl, _⟩ := h
    rfl
  · refine ⟨_, (pss_cons (ps_par (i := 2) (j := 3) rfl nd rfl rfl (by decide) rfl rfl (pa_cons (pe_op op_add pe_int (pe_cal C__law_sip (hr.mono (by decide)) rfl pass0 (pa_cons (pv 0) (pa_cons (pv 1) pa_nil)))) (pa_cons (pe_cal C__law_sip (hr.mono (by decide)) rfl pass0 (pa_cons (pv 0) (pa_cons pe_int pa_nil))) pa_nil)) (by rfl))
  (pss_cons (ps_set (i := 4) nd rfl (Or.inr rfl) (pe_ix ix_list (pe_lst (pa_cons (pe_lst (pa_cons pe_int (pa_cons pe_int pa_nil))) (pa_cons (pe_lst (pa_cons pe_int (pa_cons pe_int (pa_cons pe_int (pa_cons pe_int pa_nil))))) (pa_cons (pe_lst (pa_cons (pe_op op_pow pe_int pe_int) (pa_cons pe_int (pa_cons (pe_op op_sub (pe_op op_pow pe_int pe_int) pe_int) pa_nil)))) (pa_cons (pe_lst (pa_cons pe_int (pa_cons pe_int (pa_cons pe_int pa_nil)))) pa_nil))))) (pv 3) (fun _ _ => rfl)))
  (pss_cons (ps_setLc (i := 5) (own := [("_law_k", 7)]) (g := gName 7) (tt := tYes) rfl nd rfl rfl (sw_true rfl rfl rfl (by decide +kernel)) (pi_range1 rfl G.b_range (pa_cons (pv 2) pa_nil)) (blkOk_by (N := NDrawn) (sc := defScope sDrawnLine) (by decide +kernel)) (fun _ _ _ _ _ => pg_name (i := 7) nd rfl (Or.inl rfl)) (fun _ _ _ _ _ => pts_nil) (fun _ _ _ _ _ => (pe_cal C__law_pick (hr.mono (by decide)) rfl pass0 (pa_cons (pv 0) (pa_cons (pv 4) pa_nil)))))
  (pss_cons (ps_if (pt_cmpR op_eq (pv 3) pe_int (nomark _)) (pss_cons (ps_set (i := 6) nd rfl (Or.inl rfl) (pe_slice sl_list (pv 5) po_none (po_some (pe_op op_add pe_int (pe_op op_fdiv (pv 2) pe_int)))))
  (pss_one (ps_set (i := 5) nd rfl (Or.inl rfl) (pe_op op_cat (pe_slice sl_list (pe_op op_rep (pv 6) pe_int) po_none (po_some (pe_op op_sub (pv 2) pe_int))) (pe_slice sl_list (pv 5) (po_some (pe_op op_sub (pv 2) pe_int)) po_none))))) pss_nil)
  (pss_one (ps_ret (pe_callTy call_tuple_of rfl G.b_tuple (by decide +kernel) (pa_cons (pe_slice sl_list (pv 5) po_none (po_some (pv 2))) pa_nil)))))))), ?_⟩
    obtain ⟨c, rfl, hc, q⟩ := h
    have zl : (2000 : Nat) ≤ sizeLine := by decide
    refine ⟨_, rfl, _, rfl, c, 30, rfl, by decide, by decide, hc, fun H1 m1 se1 hc1 m0 m2 => ?_⟩
    refine ⟨_, _, rfl, rfl, ?_⟩
    refine ⟨_, rfl, c, 4, rfl, by decide, by decide, hc1, fun H2 way se2 hc2 w0 w1 => ?_⟩
    refine ⟨_, _, rfl, ?_⟩
    obtain ⟨n, rfl⟩ : ∃ n : Nat, m1 = (n : Int) := ⟨m1.toNat, by omega⟩
    have e1 : (1 : Int) + (n : Int) = ((n + 1 : Nat) : Int) := by omega
    -- the four menus
    refine ⟨by show 2 ≤ sizeLine; omega, fun M0 h0 => ?_⟩
    refine ⟨by show 4 ≤ sizeLine; omega, fun M1 h1 => ?_⟩
    refine ⟨_, _, rfl, rfl, ⟨by decide, by decide, by decide⟩, ?_⟩
    refine ⟨_, _, rfl, rfl, ⟨by decide, by decide, by decide⟩, _, _, rfl, rfl, ?_⟩
    refine ⟨by show 3 ≤ sizeLine; omega, fun M2 h2 => ?_⟩
    refine ⟨by show 3 ≤ sizeLine; omega, fun M3 h3 => ?_⟩
    refine ⟨by show 4 ≤ sizeLine; omega, fun M4 h4 => ?_⟩
    have sa : Same H2 (upd H2 M0 (.lst [.int 0, .int 1])) := Same.new h0
    have sb := Same.new (o := .lst [.int 0, .int 1, .int 2, .int 7]) h1
    have sc := Same.new (o := .lst [(fun i j : Int => V.int (i ^ j.toNat)) 10 18, V.int 5, (fun i j : Int => V.int (i - j)) (10 ^ Int.toNat 18) 1]) h2
    have sd := Same.new (o := .lst [.int 3, .int 4, .int 3]) h3
    have sf := Same.new (o := .lst [V.ref M0, .ref M1, .ref M2, .ref M3]) h4
    have s23 := (((sa.trans sb).trans sc).trans sd).trans sf
    have g0 := (((sb.trans sc).trans sd).trans sf) M0 (.lst (ti [0, 1])) upd_same
    have g1 := ((sc.trans sd).trans sf) M1 (.lst (ti [0, 1, 2, 7])) upd_same
    have g2 := (sd.trans sf) M2 (.lst (ti [10 ^ 18, 5, 10 ^ 18 - 1])) upd_same
    have g3 := sf M3 (.lst (ti [3, 4, 3])) upd_same
    have g4 : (upd (upd (upd (upd (upd H2 M0 (.lst [V.int 0, V.int 1])) M1 (.lst [V.int 0, V.int 1, V.int 2, V.int 7])) M2 (.lst [(fun i j : Int => V.int (i ^ j.toNat)) 10 18, V.int 5, (fun i j : Int => V.int (i - j)) (10 ^ Int.toNat 18) 1])) M3 (.lst [V.int 3, V.int 4, V.int 3])) M4 (.lst [V.ref M0, .ref M1, .ref M2, .ref M3])) M4 = some (.lst [V.ref M0, .ref M1, .ref M2, .ref M3]) := upd_same
    obtain ⟨ca, cm, cz, ca0, hcc⟩ := hc2
    have n0 : c ≠ M0 := ne_of_none hcc h0
    have n1 : c ≠ M1 := ne_of_none (sa _ _ hcc) h1
    have n2 : c ≠ M2 := ne_of_none ((sa.trans sb) _ _ hcc) h2
    have n3 : c ≠ M3 := ne_of_none (((sa.trans sb).trans sc) _ _ hcc) h3
    clear sa sb sc sd sf h1 h2 h3 h4
    revert s23 g0 g1 g2 g3 g4
    generalize (upd (upd (upd (upd (upd H2 M0 (.lst [V.int 0, V.int 1])) M1 (.lst [V.int 0, V.int 1, V.int 2, V.int 7])) M2 (.lst [(fun i j : Int => V.int (i ^ j.toNat)) 10 18, V.int 5, (fun i j : Int => V.int (i - j)) (10 ^ Int.toNat 18) 1])) M3 (.lst [V.int 3, V.int 4, V.int 3])) M4 (.lst [V.ref M0, .ref M1, .ref M2, .ref M3])) = H3
    intro s23 g0 g1 g2 g3 g4
    obtain ⟨L, ls, hLc, hat, hL, ne, lz, lets⟩ : ∃ L ls, c ≠ L ∧ atI [V.ref M0, .ref M1, .ref M2, .ref M3] way = some (.ref L) ∧ H3 L = some (.lst (ti ls)) ∧ ls ≠ [] ∧ ls.length ≤ 60 ∧ ∀ x ∈ ls, Let x := by
      have hw : way = ((0 : Nat) : Int) ∨ way = ((1 : Nat) : Int) ∨ way = ((2 : Nat) : Int) ∨ way = ((3 : Nat) : Int) := by omega
      rcases hw with e | e | e | e <;> rw [e]
      · exact ⟨M0, _, n0, atI_nat rfl, g0, by simp, by decide, by simp [Let]⟩
      · exact ⟨M1, _, n1, atI_nat rfl, g1, by simp, by decide, by simp [Let]⟩
      · exact ⟨M2, _, n2, atI_nat rfl, g2, by simp, by decide, by simp [Let]⟩
      · exact ⟨M3, _, n3, atI_nat rfl, g3, by simp, by decide, by simp [Let]⟩
    refine ⟨_, rfl, M4, _, way, .ref L, rfl, rfl, .inl (.inl g4), hat, ?_⟩
    have se3 : SameE c H H3 := (se1.trans se2).trans (SameE.of s23)
    have hc3 : CupAt H3 c := ⟨ca, cm, cz, ca0, s23 _ _ hcc⟩
    refine ⟨_, rfl, _, rfl, by omega, by omega, fun D hD => ?_⟩
    have en : ((1 : Int) + (n : Int)).toNat = n + 1 := by omega
    have hDc : c ≠ D := ne_of_none (s23 _ _ hcc) hD
    refine lc_it (walk_range (lo := 0) (n := ((1 : Int) + (n : Int)).toNat)) (fun i H' => SameE c H3 H' ∧ CupAt H' c ∧ ∃ acc : List Int, acc.length = i ∧ (∀ x ∈ acc, Let x) ∧ H' D = some (.lst (ti acc))) ⟨samee_lst (SameE.of (Same.refl _)) hD, ?_, [], rfl, by simp, upd_same⟩ (fun _ _ _ _ => trivial) (fun i x Ha Hb hi p y => ?_) fun H4 p => ?_
    · obtain ⟨xa, xm, xz, xa0, hx⟩ := hc3
      exact ⟨xa, xm, xz, xa0, by rw [upd_ne hDc]; exact hx⟩
    · obtain ⟨sx, hcx, acc, hl, hlet, hDl⟩ := p
      obtain ⟨e1, e2⟩ := y
      subst e1
      refine ⟨wipe_set _ _ _, yes_lc ?_⟩
      refine ⟨_, rfl, _, rfl, c, L, ls, rfl, hcx, hLc, sx L _ (Ne.symm hLc) hL, ne, lz, fun H5 v s5 hc5 hv => ?_⟩
      refine ⟨_, s5 D _ (Ne.symm hDc) hDl, by rw [ti_len]; omega, ?_⟩
      refine ⟨samee_lst (sx.trans s5) hD, ?_, acc ++ [v], by rw [List.length_append, hl]; rfl, ?_, ?_⟩
      · obtain ⟨xa, xm, xz, xa0, hx⟩ := hc5
        exact ⟨xa, xm, xz, xa0, by rw [upd_ne hDc]; exact hx⟩
      · intro x hx
        rcases List.mem_append.mp hx with z | z
        · exact hlet x z
        · rw [List.mem_singleton.mp z]
          exact lets v hv
      · rw [upd_same, ti_app]
        rfl
    · obtain ⟨s4, hc4, fo, hfl, hflet, hDl⟩ := p
      rw [en] at hfl
      have se4 : SameE c H H4 := se3.trans s4
      -- the end: the first many of a list, as a tuple
      have fin : ∀ (r : Addr) (gs : List Int) (σ : L2.St) (Hx : Hp), σ[5]? = some (some (.ref r)) → σ[2]? = some (some (.int (1 + (n : Int)))) → Hx r = some (.lst (ti gs)) → Same H4 Hx → gs ≠ [] → (∀ x ∈ gs, Let x) →
          tRet (tCB (fun xs H_1 Q => ∃ p ys, xs = [.ref p] ∧ ((SqL K H_1 p ys ∧ ∀ l, H_1 l = none → Q (.ref l) (upd H_1 l (.tup ys))) ∨ (SqT K H_1 p ys ∧ Q (.ref p) H_1))) (tCons (tSl (rSlL K) (tVar 5) tNoPart (tPart (tVar 2))) tNil)) { nx := fun _ H' => Q .non H', rt := Q } σ Hx := by
        intro r gs σ Hx h5 h2 hr sx gne glet
        refine ⟨_, h5, _, h2, _, rfl, ?_⟩
        refine rSlL_by hr fun p H5 s5 hp5 h5 => ?_
        rw [e1, cutI_take] at h5
        refine ⟨p, _, rfl, .inl ⟨.inl (.inl h5), fun l hl => ?_⟩⟩
        have hcl := (s5.trans (Same.new (o := .tup (ti (gs.take (n + 1)))) hl))
        obtain ⟨xa, xm, xz, xa0, hx⟩ := hc4
        refine q _ l (gs.take (n + 1)) (se4.trans (SameE.of (sx.trans hcl))) ⟨xa, xm, xz, xa0, (sx.trans hcl) _ _ hx⟩ (SqT.of upd_same) ?_ ?_ fun x hx => glet x (List.mem_of_mem_take hx)
        · intro z
          have := congrArg List.length z
          rw [List.length_take, List.length_nil] at this
          have := List.length_pos_iff.mpr gne
          omega
        · rw [List.length_take]
          omega
      have fone : fo ≠ [] := fun z => by
        rw [z] at hfl
        simp at hfl
      refine ⟨_, rfl, rfl, decide (way = 3), by rw [vint_eq], ?_⟩
      by_cases hw : way = 3
      · rw [decide_eq_true hw]
        refine iteT ⟨_, rfl, _, rfl, _, _, rfl, rfl, ⟨by decide, by decide⟩, _, _, rfl, rfl, _, rfl, ?_⟩
        refine rSlL_by hDl fun p5 H5 s5 n5 h5 => ?_
        refine ⟨_, rfl, ?_⟩
        refine ⟨p5, 4, _, rfl, rfl, h5, by decide, by decide, ?_, fun p6 hp6 => ?_⟩
        · rw [ti_len]
          have : (cutI fo none (some ((fun i j : Int => i + j) 1 ((1 + (n : Int)) / 3)))).length ≤ fo.length := by
            unfold cutI
            rw [List.length_take, List.length_drop]
            omega
          show _ * 4 ≤ sizeLine
          have h2 : (cutI fo none (some (1 + (1 + (n : Int)) / 3))).length ≤ fo.length := this
          omega
        · refine ⟨_, rfl, _, _, rfl, rfl, _, rfl, ?_⟩
          have s6 := Same.new (o := .lst (List.replicate (Int.toNat 4) (ti (cutI fo none (some (1 + (1 + (n : Int)) / 3))))).flatten) hp6
          refine rSlL_by (l := (List.replicate (Int.toNat 4) (cutI fo none (some (1 + (1 + (n : Int)) / 3)))).flatten) (upd_same.trans (by rw [rep_ti])) fun p7 H7 s7 n7 h7 => ?_
          refine ⟨_, rfl, _, rfl, _, _, rfl, rfl, _, rfl, ?_⟩
          have s57 := (s5.trans s6).trans s7
          refine slLoL (rSlL_by (s57 _ _ hDl) fun p8 H8 s8 n8 h8 => ?_)
          have ed : ((1 : Int) + (n : Int) - 1) = ((n : Nat) : Int) := by omega
          have h8' : H8 p8 = some (.lst (ti (fo.drop n))) := by
            rw [← cutI_drop, ← ed]
            exact h8
          have h7' := s8 _ _ h7
          refine ⟨p7, p8, _, _, rfl, rfl, h7', h8', ?_, fun p9 hp9 => ?_⟩
          · rw [ti_len, ti_len, List.length_drop]
            have c1 : ∀ (l : List Int) (lo hi : Option Int), (cutI l lo hi).length ≤ l.length := fun l lo hi => by
              unfold cutI
              rw [List.length_take, List.length_drop]
              omega
            have c2 := c1 (List.replicate (Int.toNat 4) (cutI fo none (some (1 + (1 + (n : Int)) / 3)))).flatten none (some (1 + (n : Int) - 1))
            have c3 := c1 fo none (some (1 + (1 + (n : Int)) / 3))
            have c4 : (List.replicate (Int.toNat 4) (cutI fo none (some (1 + (1 + (n : Int)) / 3)))).flatten.length = 4 * (cutI fo none (some (1 + (1 + (n : Int)) / 3))).length := by
              rw [List.length_flatten, List.map_replicate, List.sum_replicate_nat]
              rfl
            show (cutI (List.replicate (Int.toNat 4) (cutI fo none (some (1 + (1 + (n : Int)) / 3)))).flatten none (some (1 + (n : Int) - 1))).length + (fo.length - n) ≤ sizeLine
            omega
          · have s9 := Same.new (o := .lst (ti (cutI (List.replicate (Int.toNat 4) (cutI fo none (some (1 + (1 + (n : Int)) / 3)))).flatten none (some (1 + (n : Int) - 1))) ++ ti (fo.drop n))) hp9
            refine fin p9 (cutI (List.replicate (Int.toNat 4) (cutI fo none (some (1 + (1 + (n : Int)) / 3)))).flatten none (some (1 + (n : Int) - 1)) ++ fo.drop n) _ _ rfl rfl (upd_same.trans (by rw [ti_app])) ((s57.trans s8).trans s9) ?_ ?_
            · intro z
              have := congrArg List.length (List.append_eq_nil_iff.mp z).2
              rw [List.length_drop, List.length_nil] at this
              omega
            · intro x hx
              rcases List.mem_append.mp hx with z | z
              · exact hflet x (cutI_mem (rep_mem (cutI_mem z)))
              · exact hflet x (List.mem_of_mem_drop z)
      · rw [decide_eq_false hw]
        exact iteF (fin D fo _ H4 rfl rfl hDl (Same.refl _) fone hflet)
end
end Eo
set_option maxHeartbeats 4000000
namespace Eo
open PySem PySem.Spec PyProof.Rows L2 LamX
open C8 (pe_gc)
section
variable {X : Cx} {CX : CXT} {k : Nat} {sp : Sp} {E : L2.St → XK} {x : Str} {p pos : Pos} {e : Expr} {es : List Expr} {t : TA}
theorem pe_calS (c : CalE X.prog X.w X.K X.mg X.base CX k x sp) (hr : Room k X.A) (hg : Gl X x) (hx : ∀ σ, PassesAt CX X σ (E σ)) (ha : PA X (e :: es) t) (hdb : (x == ("__debug__" : Str)) = false := by decide)
    (he : starEach (e :: es) X.env = (false, eval e X.env) :: starEach es X.env := by rfl) (hpl : (backTo pos (starEach es X.env)).any (·.1) = false := by rfl) : PE X (.Call (.Name x p) (e :: es) [] pos) (tCallS sp E t) := by
  obtain ⟨f, fd, ps, F, hm, hk, hb⟩ := c
  exact pe_callS F hr hg hm hk hb hx ha hdb he hpl
end
section
variable {P : Program} {w : World} {K : PySem.W.Frag} {mg : Str → Option Value} {base : Heap}
/-! ### _law_column_told -/
def spTold (K : PySem.W.Frag) (T : List (Addr × Str)) : Sp := fun vs H Q _ => ∃ (a : Addr) (t : List Int) (k : Str), vs = [.ref a, .str k] ∧ SqT K H a (ti t) ∧ Tx t ∧ k ∈ kinds ∧ Tabs T H ∧
  ∀ H', ExtN H H' → Tabs T H' → (rep k t → ∀ p, SqT K H' p (ti []) → Q (.ref p) H') ∧ (¬ rep k t → ∀ p, SqT K H' p (ti (colL k t)) → Q (.ref p) H')
def NTold : List Str := ["_law_line", "_law_sort"]
theorem sc_told : FnScope NTold NTold (defScope sColumnTold) := ⟨rfl, rfl, rfl, by decide +kernel, rfl, by decide +kernel, by decide +kernel⟩
theorem ok_told {T : List (Addr × Str)} {CR : Addr} (D : Df K mg "_law_column_told" sColumnTold) (G : Gd K mg) (R : GR K mg CR) (C_column_of : CalE P w K mg base (L2.CX P w) 5 "column_of" (spColumn K T CR)) : CalE P w K mg base CX0 6 "_law_column_told" (spTold K T) := by
  refine D.ok sc_told (fun _ _ _ _ _ _ us hl => match us, hl with | [_, _], _ => rfl) (fun vs H Q E h => ?_) (fun f cdv A outer s H vs Q E hr h => ?_)
  · obtain ⟨a, t, k, rfl, _⟩ := h
    rfl
  · refine ⟨_, pss_one (ps_try_only (c := .ref CR) (tb := fun W => tRet (tCallS (spColumn K T CR) (WE W) (tCons (tVar 0) (tCons (tVar 1) tNil)))) rfl rfl ⟨rfl, by decide, .inl R.gC⟩ L2.takes0
      (fun W pn xe tk _ => pss_one (ps_ret (pe_calS C_column_of (hr.mono (by decide)) rfl (fun σ => L2.passAt tk σ) (pa_cons (pv 0) (pa_cons (pv 1) pa_nil)))))
      (fun a oe cls d pn _ _ => pss_one (ps_ret (pe_tup pa_nil)))), ?_⟩
    obtain ⟨a, t, k, rfl, ht, tx, hk, hT, q⟩ := h
    refine ⟨_, rfl, _, rfl, a, t, k, rfl, ht, tx, hk, hT, fun H1 eN T1 => ⟨fun r => ?_, fun nr p hp => (q H1 eN T1).2 nr p hp⟩⟩
    refine ⟨true, R.exm, fun _ e1 he1 => ?_, fun z => by cases z⟩
    refine ⟨Nat.zero_le _, fun p hp => ?_⟩
    have s1 : Same H1 (upd H1 p (.tup [])) := Same.new hp
    exact (q _ (ExtN.trans eN (ExtN.of s1)) (T1.ext s1)).1 r p (SqT.of upd_same)
end
end Eo
set_option maxHeartbeats 4000000
namespace Eo
open PySem PySem.Spec PyProof.Rows L2 LamX
open C8 (pe_gc)
/-! ### repr, where no guard stands -/
def rReprG (K : PySem.W.Frag) : List V → Hp → VK → Prop := fun xs H Q => ∃ (a : Addr) (d : PyData), xs = [.ref a] ∧ Dp K H (.ref a) d ∧ d.showable = true ∧ d.hasDict = false ∧ d.depth ≤ 60 ∧ d.shown.length ≤ sizeLine ∧ Q (.str d.shown) H
theorem call_reprG {X : Cx} (hg : X.A.guards = some []) (hu : X.A.units + 64 < cLine) : CallR X (.builtin "repr") (rReprG X.K) := by
  intro pins s σ H xs us Q I r h
  obtain ⟨a, d, rfl, dp, hs, hd, hdp, hz, q⟩ := h
  obtain rfl := Vals.ref1 r
  obtain ⟨as, rd⟩ := Dp.reads I d (.ref a) (.ref a) dp rfl
  refine PySem.repr_of_reads' (h₀ := s.heap) rd hs (fun z => ?_) hg (by omega) (fun _ _ e => e) (fun h' u tk hk => ⟨.str d.shown, H, I.kept hk, ⟨u, rfl⟩, q⟩) hz
  rw [hd] at z
  cases z
/-! ### defs that are called where no guard stands -/
structure FnG (P : Program) (w : World) (K : PySem.W.Frag) (mg : Str → Option Value) (base : Heap) (k : Nat) (f : Addr) (fd : FuncData) (ps : List Str) (sp : Sp) : Prop where
  len : ∀ vs H Q E, sp vs H Q E → vs.length = ps.length
  run : ∀ (A : Around) (outer : List Env) (s : Shared) (H : Hp) (args : Args) (us : List Value) (vs : List V) (Q : VK) (E : XK), Room k A → A.guards = some [] → Env0 P w K mg base A outer s H → BindsTo s fd args (ps.zip us) → Vals vs us → sp vs H Q E →
    codeAny (model P w) A (.call (.ref f) args) (CR CX0 outer P w H s Q E) s
def CalG (P : Program) (w : World) (K : PySem.W.Frag) (mg : Str → Option Value) (base : Heap) (k : Nat) (x : Str) (ps : List Str) (sp : Sp) : Prop :=
  ∃ f fd, FnG P w K mg base k f fd ps sp ∧ mg x = some (.ref f) ∧ PySem.W.keepIn K (.ref f) = true ∧ Binds K fd ps [] ∧ ∀ (s : Shared) (us : List Value), us.length = ps.length → BindsTo s fd ⟨us, []⟩ (ps.zip us)
section
variable {P : Program} {w : World} {K : PySem.W.Frag} {mg : Str → Option Value} {base : Heap}
theorem Df.okG {x : Str} {st : Stmt} {N ps : List Str} {k : Nat} {sp : Sp} (D : Df K mg x st) (S : FnScope N ps (defScope st)) (B : BindT x st ps) (len : ∀ vs H Q E, sp vs H Q E → vs.length = ps.length)
    (hbody : ∀ (f : Addr) (cdv : Value) (A : Around) (outer : List Env) (s : Shared) (H : Hp) (vs : List V) (Q : VK) (E : XK), Room k (A.deeper (envOfC x (defScope st) s.heap.objs.size f cdv)) → A.guards = some [] → sp vs H Q E →
      ∃ t, PSs (cxOf CX0 P w K mg base N x (defScope st) f cdv A outer s H E).nox (defBody st) t ∧ t { nx := fun _ H' => Q .non H', rt := Q } (L2.start N vs) H) : CalG P w K mg base (k + 1) x ps sp := by
  obtain ⟨f, fd, F, hm⟩ := D
  refine ⟨f, fd, ⟨len, fun A outer s H args us vs Q E hr hg e0 hb r h => ?_⟩, hm, F.kp, F.bindsN B, fun s us hl => F.bindsA B s us hl⟩
  obtain ⟨oc, od, dV, kV, doc, pm, an, cdv, ct, osl, rfl, lk, hcd, _, _⟩ := F.ex
  refine run_ofS lk hcd S hr e0 hb r (len _ _ _ _ h) fun hr2 => ?_
  obtain ⟨t, h1, h2⟩ := hbody f cdv A outer s H vs Q E hr2 hg h
  exact ⟨t, h1.nox, h2⟩
end
section
variable {X : Cx} {k : Nat} {sp : Sp} {x : Str} {ps : List Str} {p pos : Pos} {e : Expr} {es : List Expr} {t : TA}
theorem pe_calG (c : CalG X.prog X.w X.K X.mg X.base k x ps sp) (hr : Room k X.A) (hgd : X.A.guards = some []) (hg : Gl X x) (ha : PA X (e :: es) t) (hdb : (x == ("__debug__" : Str)) = false := by decide)
    (he : starEach (e :: es) X.env = (false, eval e X.env) :: starEach es X.env := by rfl) (hpl : (backTo pos (starEach es X.env)).any (·.1) = false := by rfl) : PE X (.Call (.Name x p) (e :: es) [] pos) (tCal sp (fun _ _ _ => False) t) := by
  obtain ⟨f, fd, F, hm, hk, hb, _⟩ := c
  refine ⟨fun pins s σ H Q I h => ?_⟩
  refine wpAny_Call_Name_kw (ld_glob I hg hm ?_ hdb)
  refine PySem.W.callWith_K (h₀ := X.base) I.ok.mod.kin hk (thn (ha.run pos pins s σ H _ I h) fun us s1 ⟨vs, H1, I1, r, q⟩ => ⟨I1.kIn, ?_⟩) he hpl
  have hl : us.length = ps.length := by rw [← r.length]; exact F.len _ _ _ _ q
  have b := hb s1 us I1.kIn (by rw [List.append_nil]; exact hl)
  rw [List.append_nil] at b
  refine wpAny_call (codeAny_mono (F.run X.A X.stack s1 H1 ⟨us, []⟩ us vs Q (fun _ _ _ => False) hr hgd I1.env0 b r q) fun r s' hq => ?_)
  cases r with
  | error e => exact False.elim hq
  | ok fl =>
    cases fl with
    | ret u => exact I1.after hq
    | next => exact False.elim hq
    | brk => exact False.elim hq
    | cont => exact False.elim hq
end
/-! ### what the texts show -/
theorem shown_ints {t : List Int} (h : ∀ x ∈ t, Let x) (hl : t.length ≤ 60) : (PyData.tuple (t.map PyData.int)).showable = true ∧ (PyData.tuple (t.map PyData.int)).hasDict = false ∧ (PyData.tuple (t.map PyData.int)).shown.length ≤ 2000 := by
  have h1 : ∀ l : List Int, (∀ x ∈ l, Let x) → PyData.showableAll (l.map PyData.int) = true ∧ PyData.hasDictAll (l.map PyData.int) = false ∧ piled (PyData.shownAll (l.map PyData.int)) ≤ 21 * l.length := by
    intro l
    induction l with
    | nil => intro _; exact ⟨by simp only [List.map_nil, PyData.showableAll], by simp only [List.map_nil, PyData.hasDictAll], by simp only [List.map_nil, PyData.shownAll, piled_nil]; exact Nat.zero_le _⟩
    | cons x l ih =>
      intro hx
      obtain ⟨i1, i2, i3⟩ := ih fun y hy => hx y (List.mem_cons_of_mem _ hy)
      have lx := hx x List.mem_cons_self
      have z : (Str.ofString (toString x)).length ≤ 19 := toString_length_le lx.1 (by decide) (by have := lx.2; omega)
      have z2 : x.natAbs.log2 < 1920 := by
        have hx2 : x.natAbs < 2 ^ 1920 := by
          have := lx.2
          have h0 := lx.1
          have h3 : (10 : Nat) ^ 18 < 2 ^ 1920 := by decide +kernel
          omega
        by_cases h0 : x.natAbs = 0
        · rw [h0]; decide
        · exact (Nat.log2_lt h0).mpr hx2
      refine ⟨by simp only [List.map_cons, PyData.showableAll, PyData.showable, i1, decide_eq_true z2, Bool.and_self], by simp only [List.map_cons, PyData.hasDictAll, PyData.hasDict, i2, Bool.or_self], ?_⟩
      simp only [List.map_cons, PyData.shownAll, PyData.shown, piled_cons, List.length_cons]
      have z3 : (Str.ofString (toString x)).length ≤ 19 := z
      omega
  obtain ⟨a, b, c⟩ := h1 t h
  refine ⟨by simpa only [PyData.showable] using a, by simpa only [PyData.hasDict] using b, ?_⟩
  simp only [PyData.shown]
  have e1 : (tupleText (PyData.shownAll (t.map PyData.int))).length ≤ 3 + (Str.join ", " (PyData.shownAll (t.map PyData.int))).length := by
    unfold tupleText
    rw [strLen_append, strLen_append]
    have e3 : ((("(" : String) : Str)).length = 1 := rfl
    have e4 : (((if (PyData.shownAll (t.map PyData.int)).length == 1 then ",)" else ")" : String) : Str)).length ≤ 2 := by
      split
      · show (2 : Nat) ≤ 2
        exact Nat.le_refl _
      · show (1 : Nat) ≤ 2
        decide
    omega
  by_cases hne : PyData.shownAll (t.map PyData.int) = []
  · rw [hne]
    show (tupleText []).length ≤ 2000
    decide
  · have := join_length_add _ hne
    omega
theorem shown_two {d : PyData} (h : d.shown.length ≤ 2000) : (PyData.list [d, d]).shown.length ≤ sizeLine := by
  simp only [PyData.shown, PyData.shownAll]
  unfold listText
  rw [strLen_append]
  show (textFrom (0 + 1) (("[" : Str) ++ ((if 0 > 0 then ", " else "" : String) : Str) ++ d.shown) [d.shown]).length + _ ≤ sizeLine
  rw [textFrom_length_pos _ _ _ (by decide), strLen_append, strLen_append, piled_cons, piled_nil]
  have e1 : (("[" : String) : Str).length = 1 := rfl
  have e2 : (((if 0 > 0 then ", " else "" : String)) : Str).length = 0 := rfl
  have e3 : (("]" : String) : Str).length = 1 := rfl
  have zl : (10000 : Nat) ≤ sizeLine := by decide
  omega
def dTold : PyData := .list [.bool true, .bool true, .none, .none]
theorem told_shown : dTold.showable = true ∧ dTold.hasDict = false ∧ dTold.depth ≤ 60 ∧ dTold.shown.length ≤ sizeLine := by
  refine ⟨by decide +kernel, by decide +kernel, by decide +kernel, by decide +kernel⟩
end Eo
set_option maxHeartbeats 4000000
namespace Eo
open PySem PySem.Spec PyProof.Rows L2 LamX
open C8 (pe_gc)
/-! ### what a turn of the law leaves: all but the cup and the tables -/
def RelC (c : Addr) (H H' : Hp) : Prop := ∀ b o, b ≠ c → H b = some o → (∀ ps, o ≠ .tbl ps) → H' b = some o
theorem RelC.refl (c : Addr) (H : Hp) : RelC c H H := fun _ _ _ h _ => h
theorem RelC.trans {c : Addr} {H H1 H2 : Hp} (a : RelC c H H1) (b : RelC c H1 H2) : RelC c H H2 := fun x o n h q => b x o n (a x o n h q) q
theorem RelC.ofE {c : Addr} {H H' : Hp} (e : SameE c H H') : RelC c H H' := fun b o n h _ => e b o n h
theorem RelC.ofN {c : Addr} {H H' : Hp} (e : ExtN H H') : RelC c H H' := fun b o _ h q => e b o h q
theorem CupAt.ext {c : Addr} {H H' : Hp} (h : CupAt H c) (e : ExtN H H') : CupAt H' c := by
  obtain ⟨a, m, z, h0, hc⟩ := h
  exact ⟨a, m, z, h0, e _ _ hc fun _ q => by cases q⟩
theorem tabs_cup {T : List (Addr × Str)} {c : Addr} {H H' : Hp} (h : CupAt H c) (e : SameE c H H') (t : Tabs T H) : Tabs T H' := fun p hp => by
  obtain ⟨a, m, z, h0, hc⟩ := h
  obtain ⟨ps, h1, h2, h3⟩ := t p hp
  have nD : ∀ b o, H b = some o → (∀ l, o ≠ .lst l) → b ≠ c := fun b o e n z => by
    rw [z, hc] at e
    exact n _ (Option.some.inj e).symm
  refine ⟨ps, e _ _ (nD _ _ h1 fun l z => by cases z) h1, h2, fun pos cv hcv => ?_⟩
  obtain ⟨c0, e1, e2⟩ := h3 pos cv hcv
  exact ⟨c0, e1, e _ _ (nD _ _ e2 fun l z => by unfold CodeO at z; cases z) e2⟩
theorem gs_ne {σ : L2.St} {i j : Nat} {v : Option V} {w : Option (Option V)} (h : j ≠ i) (e : σ[i]? = w) : (σ.set j v)[i]? = w := by rw [List.getElem?_set_ne h]; exact e
theorem gs_eq {σ : L2.St} {i : Nat} {v : Option V} (h : i < σ.length) : (σ.set i v)[i]? = some v := List.getElem?_set_self h
theorem gname_by {i : Nat} {v : V} {σ : L2.St} {H : Hp} {N : L2.St → Hp → Prop} (h : N (σ.set i (some v)) H) : gName i v σ H N := h
section
variable {P : Program} {w : World} {K : PySem.W.Frag} {mg : Str → Option Value} {base : Heap}
/-! ### _law_right -/
def spRight (T : List (Addr × Str)) : Sp := fun vs H Q _ => ∃ c : Addr, vs = [.ref c] ∧ CupAt H c ∧ Tabs T H ∧ ∀ H', RelC c H H' → Tabs T H' → Q (.bl true) H'
def NRight : List Str := ["_law_cup", "_law_turn", "_law_line", "_law_sort", "_law_thing", "_law_begin", "_law_due", "_law_told"]
theorem sc_right : FnScope NRight ["_law_cup"] (defScope sRight) := ⟨rfl, rfl, rfl, by decide +kernel, rfl, by decide +kernel, by decide +kernel⟩
theorem ok_right {T : List (Addr × Str)} {C CR pA gA : Addr} {gfd : FuncData} (D : Df K mg "_law_right" sRight) (G : Gd K mg) (GO1 : GO K mg C) (hprop : PropOf K C "places" pA gA) (FP : FnP K "places" "Order.places" sPlaces gA gfd) (C__law_drawn_line : CalE P w K mg base CX0 3 "_law_drawn_line" (spDrawn K)) (C__law_column_told : CalE P w K mg base CX0 6 "_law_column_told" (spTold K T))
    (C_order_of : CalE P w K mg base CX0 6 "order_of" (spOrderOf K T C)) (C_text_of : CalK P w K mg base 5 "text_of" ["kind", "column"] (spTextOf K T)) (C_is_column : CalK P w K mg base 5 "is_column" ["kind", "column"] (spWhole K T)) (C_short_ring : CalK P w K mg base 5 "short_ring" ["kind", "column"] (spShort K T))
    (C_column_of : CalE P w K mg base (L2.CX P w) 5 "column_of" (spColumn K T CR)) : CalG P w K mg base 7 "_law_right" ["_law_cup"] (spRight T) := by
  have nd := sc_right.nd
  refine D.okG sc_right (fun _ _ _ _ _ _ us hl => match us, hl with | [_], _ => rfl) (fun vs H Q E h => ?_) (fun f cdv A outer s H vs Q E hr hgd h => ?_)
  · obtain ⟨c, rfl, _⟩ := h
    rfl
  · refine ⟨_, (pss_cons (ps_for PassesOwn.never rfl (pi_range1 rfl G.b_range (pa_cons pe_int pa_nil)) (pg_name (i := 1) nd rfl (Or.inl rfl))
    (pss_cons (ps_set (i := 2) nd rfl (Or.inl rfl) (pe_cal C__law_drawn_line (hr.mono (by decide)) rfl pass0 (pa_cons (pv 0) (pa_cons pe_int pa_nil))))
  (pss_one (ps_for PassesOwn.never rfl (pi_list (pe_lst (pa_cons pe_str (pa_cons pe_str (pa_cons pe_str pa_nil))))) (pg_name (i := 3) nd rfl (Or.inl rfl))
    (pss_cons (ps_set (i := 4) nd rfl (Or.inl rfl) (pe_cal C__law_column_told hr rfl pass0 (pa_cons (pv 2) (pa_cons (pv 3) pa_nil))))
  (pss_one (ps_if (pt_cmpR (op_neD hr.units) (pv 4) (pe_tup pa_nil) (nomark _)) (pss_cons (ps_set (i := 5) nd rfl (Or.inl rfl) (pe_ifExp (pt_cmpR op_eq (pv 3) pe_str (nomark _)) (pe_ix ix_tup (pe_prop (pe_cal C_order_of hr rfl pass0 (pa_cons (pv 2) (pa_cons (pv 3) pa_nil))) GO1.cls hprop (ok_places FP GO1) (hr.mono (by decide)) (FP.bindsN (ps := ["self"]) (fun _ _ _ _ _ _ us hl => match us, hl with | [_], _ => rfl)) .nil pass0 rfl) pe_int (fun _ _ => rfl)) pe_int))
  (pss_cons (ps_set (i := 6) nd rfl (Or.inl rfl) (pe_op op_catA (pe_slice sl_tupA (pv 2) (po_some (pv 5)) po_none) (pe_slice sl_tupA (pv 2) po_none (po_some (pv 5)))))
  (pss_cons (ps_if (pt_cmpR op_ne (pe_callB (call_reprG hgd hr.units) rfl G.b_repr (by decide +kernel) (pa_cons (pe_lst (pa_cons (pe_cal C_text_of.toE (hr.mono (by decide)) rfl pass0 (pa_cons (pv 4) (pa_cons (pv 3) pa_nil))) (pa_cons (pe_calW C_text_of (hr.mono (by decide)) rfl (pk_cons (pv 3) (pk_cons (pv 4) pk_nil))) pa_nil))) pa_nil)) (pe_callB (call_reprG hgd hr.units) rfl G.b_repr (by decide +kernel) (pa_cons (pe_lst (pa_cons (pv 6) (pa_cons (pv 6) pa_nil))) pa_nil)) (nomark _)) (pss_one (ps_ret pe_bl)) pss_nil)
  (pss_cons (ps_set (i := 7) nd rfl (Or.inl rfl) (pe_lst (pa_cons (pe_cal C_is_column.toE (hr.mono (by decide)) rfl pass0 (pa_cons (pv 4) (pa_cons (pv 3) pa_nil))) (pa_cons (pe_calW C_is_column (hr.mono (by decide)) rfl (pk_cons (pv 3) (pk_cons (pv 4) pk_nil))) pa_nil))))
  (pss_cons (ps_set (i := 7) nd rfl (Or.inl rfl) (pe_op op_cat (pv 7) (pe_lst (pa_cons (pe_cal C_short_ring.toE (hr.mono (by decide)) rfl pass0 (pa_cons (pv 4) (pa_cons (pv 3) pa_nil))) (pa_cons (pe_calW C_short_ring (hr.mono (by decide)) rfl (pk_cons (pv 3) (pk_cons (pv 4) pk_nil))) pa_nil)))))
  (pss_one (ps_if (PW.pt (pw_or (pt_cmpR op_ne (pe_callB (call_reprG hgd hr.units) rfl G.b_repr (by decide +kernel) (pa_cons (pv 7) pa_nil)) (pe_callB (call_reprG hgd hr.units) rfl G.b_repr (by decide +kernel) (pa_cons (pe_lst (pa_cons pe_bl (pa_cons pe_bl (pa_cons pe_non (pa_cons pe_non pa_nil))))) pa_nil)) (nomark _)) (pw_or1 (pt_cmpR (op_neD hr.units) (pe_cal (E := fun _ _ _ => False) C_column_of (hr.mono (by decide)) rfl passL (pa_cons (pv 6) (pa_cons (pv 3) pa_nil))) (pv 4) (nomark _))))) (pss_one (ps_ret pe_bl)) pss_nil))))))) (pss_one (ps_if (pt_cmpR op_ne (pv 3) pe_str (nomark _)) (pss_one (ps_ret pe_bl)) pss_nil)))))))))
  (pss_one (ps_ret pe_bl))), ?_⟩
    obtain ⟨c, rfl, hc, hT, q⟩ := h
    have zl : (10000 : Nat) ≤ sizeLine := by decide
    refine ⟨_, rfl, by decide, by decide, ?_⟩
    refine for_it (walk_range (lo := 0) (n := 8)) (fun i σ H' => RelC c H H' ∧ CupAt H' c ∧ Tabs T H' ∧ σ[0]? = some (some (.ref c)) ∧ σ.length = 8) ⟨RelC.refl _ _, hc, hT, rfl, rfl⟩ (fun _ _ _ _ _ => trivial) (fun i x σ Ha Hb hi p y => ?_) fun σ H' p => q H' p.1 p.2.2.1
    obtain ⟨rel, hca, hTa, f0, hl⟩ := p
    obtain ⟨ey, _⟩ := y
    subst ey
    refine ⟨_, gs_ne (by decide) f0, c, rfl, hca, fun H1 p t se1 hc1 ht tne tl tlet => ?_⟩
    have hT1 := tabs_cup hca se1 hTa
    have tx : Tx t := ⟨tne, by omega, tlet⟩
    refine ⟨by show 3 ≤ sizeLine; omega, fun Ls hLs => ?_⟩
    have s2 : Same H1 (upd H1 Ls (.lst [V.str "first", .str "last", .str "ring"])) := Same.new hLs
    have hL2 : (upd H1 Ls (.lst [V.str "first", .str "last", .str "ring"])) Ls = some (.lst [V.str "first", .str "last", .str "ring"]) := upd_same
    revert s2 hL2
    generalize upd H1 Ls (.lst [V.str "first", .str "last", .str "ring"]) = H2
    intro s2 hL2
    have rel2 : RelC c H H2 := (rel.trans (RelC.ofE se1)).trans (RelC.ofN (ExtN.of s2))
    have hc2 : CupAt H2 c := hc1.ext (ExtN.of s2)
    have hT2 := hT1.ext s2
    have ht2 := Same.sqt s2 ht
    refine ⟨Ls, rfl, ⟨_, .inl (.inl hL2)⟩, ?_⟩
    refine for_it (walk_list (xs := [V.str "first", .str "last", .str "ring"])) (fun j σ' H' => ExtN H2 H' ∧ Tabs T H' ∧ σ'[0]? = some (some (.ref c)) ∧ σ'[2]? = some (some (.ref p)) ∧ σ'.length = 8) ⟨ExtN.refl _, hT2, gs_ne (by decide) (gs_ne (by decide) f0), gs_eq (by rw [List.length_set]; omega), by rw [List.length_set, List.length_set]; exact hl⟩ (fun j σ' H' _ p => .inl (.inl (p.1 _ _ hL2 fun _ z => by cases z))) (fun j x σ' Hb' Hc' hj pv y => ?_) fun σ' H' pv => ?_
    · obtain ⟨eN, hTb, f0, f2, hl⟩ := pv
      obtain ⟨e1, e2⟩ := y
      subst e1
      obtain ⟨k, rfl, hk⟩ : ∃ k : Str, x = .str k ∧ k ∈ kinds := by
        match j, e2 with
        | 0, e2 => exact ⟨"first", (Option.some.inj e2).symm, by simp [kinds]⟩
        | 1, e2 => exact ⟨"last", (Option.some.inj e2).symm, by simp [kinds]⟩
        | 2, e2 => exact ⟨"ring", (Option.some.inj e2).symm, by simp [kinds]⟩
      have htb := ExtN.sqt eN ht2
      -- σ' with slots 3 ..
      have k0 : (σ'.set 3 (some (.str k)))[0]? = some (some (.ref c)) := gs_ne (by decide) f0
      have k2 : (σ'.set 3 (some (.str k)))[2]? = some (some (.ref p)) := gs_ne (by decide) f2
      have k3 : (σ'.set 3 (some (.str k)))[3]? = some (some (.str k)) := gs_eq (by omega)
      have kl : (σ'.set 3 (some (.str k))).length = 8 := by rw [List.length_set]; exact hl
      show tSeq _ _ _ (σ'.set 3 (some (.str k))) _
      generalize σ'.set 3 (some (.str k)) = τ at k0 k2 k3 kl
      refine ⟨_, k2, _, k3, p, t, k, rfl, htb, tx, hk, hTb, fun H3 e3 T3 => ⟨fun r th hth => ?_, fun nr th hth => ?_⟩⟩
      · -- a repeated ring: nothing is asked
        have hk1 : k = "ring" := r.1
        refine ⟨_, gs_eq (by omega), Nat.zero_le _, fun p4 hp4 => ?_⟩
        have s4 : Same H3 (upd H3 p4 (.tup [])) := Same.new hp4
        refine ⟨.tuple ([].map PyData.int), .tuple ([].map PyData.int), .tup (Same.sqt s4 hth) (dp_ints []), .tup (SqT.of upd_same) (dp_ints []), shaped_ints [], shaped_ints [], ?_⟩
        rw [eqv_ints]
        refine ⟨false, rfl, iteF ?_⟩
        refine ⟨_, gs_ne (by decide) k3, rfl, !decide (k = "ring"), by rw [vstr_eq], ?_⟩
        rw [decide_eq_true hk1]
        refine iteF ⟨ExtN.trans eN (ExtN.trans e3 (ExtN.of s4)), T3.ext s4, gs_ne (by decide) k0, gs_ne (by decide) k2, by rw [List.length_set]; exact kl⟩
      · have hwh := col_whole tx hk nr
        have cne : colL k t ≠ [] := hwh.ok.ne
        have e23 : ExtN H2 H3 := ExtN.trans eN e3
        -- thing != ()
        refine ⟨_, gs_eq (by omega), Nat.zero_le _, fun p4 hp4 => ?_⟩
        have s4 : Same H3 (upd H3 p4 (.tup [])) := Same.new hp4
        refine ⟨.tuple ((colL k t).map PyData.int), .tuple ([].map PyData.int), .tup (Same.sqt s4 hth) (dp_ints _), .tup (SqT.of upd_same) (dp_ints []), shaped_ints _, shaped_ints [], ?_⟩
        rw [eqv_ints, decide_eq_false cne]
        refine ⟨true, rfl, iteT ?_⟩
        have hth4 := Same.sqt s4 hth
        have hp4' := Same.sqt s4 (ExtN.sqt e3 htb)
        have T4 := T3.ext s4
        have e24 : ExtN H2 (upd H3 p4 (.tup [])) := ExtN.trans e23 (ExtN.of s4)
        clear s4
        revert hth4 hp4' T4 e24
        generalize upd H3 p4 (.tup []) = H4
        intro hth4 hp4' T4 e24
        have m0 : (τ.set 4 (some (.ref th)))[0]? = some (some (.ref c)) := gs_ne (by decide) k0
        have m2 : (τ.set 4 (some (.ref th)))[2]? = some (some (.ref p)) := gs_ne (by decide) k2
        have m3 : (τ.set 4 (some (.ref th)))[3]? = some (some (.str k)) := gs_ne (by decide) k3
        have m4 : (τ.set 4 (some (.ref th)))[4]? = some (some (.ref th)) := gs_eq (by omega)
        have ml : (τ.set 4 (some (.ref th))).length = 8 := by rw [List.length_set]; exact kl
        generalize τ.set 4 (some (.ref th)) = ρ at m0 m2 m3 m4 ml
        -- begin
        have key : ∀ R : VK, (∀ H5, ExtN H4 H5 → Tabs T H5 → R (.int (beginL k t : Int)) H5) → tIf (tTest (tOp rEq (tVar 3) (tC (V.str "ring")))) (tOp (rIxT K) (tProp C (getSp C "row") [] E0 (tCal (spOrderOf K T C) E0 (tCons (tVar 2) (tCons (tVar 3) tNil)))) (tC (V.int 0))) (tC (V.int 0)) ρ H4 R := by
          intro R hR
          refine ⟨_, m3, rfl, decide (k = "ring"), by rw [vstr_eq], ?_⟩
          by_cases h1 : k = "ring"
          · rw [decide_eq_true h1]
            refine iteT ⟨_, m2, _, m3, p, t, k, rfl, hp4', tx, hk, nr, T4, fun H5 e5 T5 x pr dx fs hx hfs hpr => ?_⟩
            refine ⟨x, dx, fs, rfl, hx, x, dx, fs, .ref pr, rfl, hx, hfs, ?_⟩
            have hb : (placesL k t)[0]? = some (beginL k t) := by
              have h0 : 0 < (placesL k t).length := by rw [placesL_len]; exact List.length_pos_iff.mpr tne
              unfold beginL
              rw [if_pos h1]
              simp [h0]
            exact ⟨pr, _, 0, .int (beginL k t : Int), rfl, rfl, hpr, natI_at (i := 0) hb, hR H5 e5 T5⟩
          · rw [decide_eq_false h1]
            have e : (0 : Int) = (beginL k t : Int) := by
              unfold beginL
              rw [if_neg h1]
              rfl
            have := hR H4 (ExtN.refl _) T4
            rw [← e] at this
            exact iteF this
        refine key _ fun H5 e45 T5 => ?_
        have hb := begin_lt (k := k) tx
        have hp5 := ExtN.sqt e45 hp4'
        have hth5 := ExtN.sqt e45 hth4
        have e25 := ExtN.trans e24 e45
        have q0 : (ρ.set 5 (some (.int (beginL k t : Int))))[0]? = some (some (.ref c)) := gs_ne (by decide) m0
        have q2 : (ρ.set 5 (some (.int (beginL k t : Int))))[2]? = some (some (.ref p)) := gs_ne (by decide) m2
        have q3 : (ρ.set 5 (some (.int (beginL k t : Int))))[3]? = some (some (.str k)) := gs_ne (by decide) m3
        have q4 : (ρ.set 5 (some (.int (beginL k t : Int))))[4]? = some (some (.ref th)) := gs_ne (by decide) m4
        have q5 : (ρ.set 5 (some (.int (beginL k t : Int))))[5]? = some (some (.int (beginL k t : Int))) := gs_eq (by omega)
        have ql : (ρ.set 5 (some (.int (beginL k t : Int)))).length = 8 := by rw [List.length_set]; exact ml
        show tSeq _ _ _ (ρ.set 5 (some (.int (beginL k t : Int)))) _
        generalize ρ.set 5 (some (.int (beginL k t : Int))) = φ at q0 q2 q3 q4 q5 ql
        -- due
        refine ⟨_, q2, _, q5, _, rfl, ?_⟩
        refine slLo (rSlA_by hp5 (sIx_nat_le _ _ _) fun p6 H6 s6 h6 => ?_)
        rw [cut_drop t _ (Nat.le_of_lt hb)] at h6
        refine ⟨_, q2, _, q5, _, rfl, ?_⟩
        refine rSlA_by (Same.sqt s6 hp5) (Nat.zero_le _) fun p7 H7 s7 h7 => ?_
        rw [cut_take t _ (Nat.le_of_lt hb)] at h7
        refine rCatA_by (Same.sqt s7 h6) h7 (by rw [ti_len, ti_len, List.length_drop, List.length_take]; omega) fun du H8 s8 h8 => ?_
        have h8' : SqT K H8 du (ti (dueL k t)) := by
          rw [dueL, ti_app]
          exact h8
        have s58 := (s6.trans s7).trans s8
        have hth8 := Same.sqt s58 hth5
        have T8 := T5.ext s58
        have e28 := ExtN.trans e25 (ExtN.of s58)
        have r0 : (φ.set 6 (some (.ref du)))[0]? = some (some (.ref c)) := gs_ne (by decide) q0
        have r2 : (φ.set 6 (some (.ref du)))[2]? = some (some (.ref p)) := gs_ne (by decide) q2
        have r3 : (φ.set 6 (some (.ref du)))[3]? = some (some (.str k)) := gs_ne (by decide) q3
        have r4 : (φ.set 6 (some (.ref du)))[4]? = some (some (.ref th)) := gs_ne (by decide) q4
        have r6 : (φ.set 6 (some (.ref du)))[6]? = some (some (.ref du)) := gs_eq (by omega)
        have rl : (φ.set 6 (some (.ref du))).length = 8 := by rw [List.length_set]; exact ql
        show tSeq _ _ _ (φ.set 6 (some (.ref du))) _
        generalize φ.set 6 (some (.ref du)) = ψ at r0 r2 r3 r4 r6 rl
        -- repr([..]) != repr([due, due])
        obtain ⟨row, cyc, rowl, rowlt, rowtx⟩ := col_row tx hk nr
        have dtx := due_tx (k := k) tx
        obtain ⟨sh1, sh2, sh3⟩ := shown_ints dtx.let_ dtx.few
        have dsh : (PyData.list [.tuple ((dueL k t).map PyData.int), .tuple ((dueL k t).map PyData.int)]).showable = true ∧ (PyData.list [.tuple ((dueL k t).map PyData.int), .tuple ((dueL k t).map PyData.int)]).hasDict = false ∧ (PyData.list [.tuple ((dueL k t).map PyData.int), .tuple ((dueL k t).map PyData.int)]).depth ≤ 60 := by
          refine ⟨by simp only [PyData.showable, PyData.showableAll] at sh1 ⊢; simp [sh1], by simp only [PyData.hasDict, PyData.hasDictAll] at sh2 ⊢; simp [sh2], ?_⟩
          have h2 : ∀ l : List Int, PyData.depthAll (l.map PyData.int) = 0 := by
            intro l
            induction l with
            | nil => simp [PyData.depthAll]
            | cons i l ih => simp [PyData.depthAll, PyData.depth, ih]
          simp only [PyData.depth, PyData.depthAll, h2]
          decide
        refine ⟨_, r4, _, r3, th, _, k, row, rfl, hth8, hwh, hk, cyc, rowl, rowlt, T8, fun H9 e9 T9 u1 hu1 => ?_⟩
        rw [rowtx] at hu1
        have hth9 := ExtN.sqt e9 hth8
        refine ⟨_, r3, _, r4, rfl, th, _, k, row, rfl, hth9, hwh, hk, cyc, rowl, rowlt, T9, fun H10 e10 T10 u2 hu2 => ?_⟩
        rw [rowtx] at hu2
        refine ⟨by show 2 ≤ sizeLine; omega, fun l1 hl1 => ?_⟩
        have s11 := Same.new (o := .lst [V.ref u1, .ref u2]) hl1
        refine ⟨l1, _, rfl, .lst (.inl (.inl upd_same)) (.cons (.tup (Same.sqt s11 (ExtN.sqt e10 hu1)) (dp_ints _)) (.cons (.tup (Same.sqt s11 hu2) (dp_ints _)) .nil)), dsh.1, dsh.2.1, dsh.2.2, shown_two sh3, ?_⟩
        have e8x := ExtN.trans e9 (ExtN.trans e10 (ExtN.of s11))
        have hdu11 := ExtN.sqt e8x h8'
        refine ⟨_, r6, _, r6, by show 2 ≤ sizeLine; omega, fun l2 hl2 => ?_⟩
        have s12 := Same.new (o := .lst [V.ref du, .ref du]) hl2
        have hdu12 := Same.sqt s12 hdu11
        refine ⟨l2, _, rfl, .lst (.inl (.inl upd_same)) (.cons (.tup hdu12 (dp_ints _)) (.cons (.tup hdu12 (dp_ints _)) .nil)), dsh.1, dsh.2.1, dsh.2.2, shown_two sh3, ?_⟩
        refine ⟨rfl, false, by rw [vstr_eq, decide_eq_true rfl]; rfl, iteF ?_⟩
        have T12 := (T10.ext s11).ext s12
        have e8y := ExtN.trans e8x (ExtN.of s12)
        have hth12 := ExtN.sqt e8y hth8
        have e212 := ExtN.trans e28 e8y
        clear hdu11 e8x e8y e9 e10
        revert T12 hth12 e212 hdu12
        generalize upd _ l2 (.lst [V.ref du, .ref du]) = G0
        intro hdu12 T12 hth12 e212
        -- is_column, twice
        refine ⟨_, r4, _, r3, th, _, k, rfl, hth12, hwh, hk, T12, fun G1 g1 U1 => ?_⟩
        refine ⟨_, r3, _, r4, rfl, th, _, k, rfl, ExtN.sqt g1 hth12, hwh, hk, U1, fun G2 g2 U2 => ?_⟩
        refine ⟨by show 2 ≤ sizeLine; omega, fun l3 hl3 => ?_⟩
        have s13 := Same.new (o := .lst [V.bl true, .bl true]) hl3
        have hl3' : (upd G2 l3 (.lst [V.bl true, .bl true])) l3 = some (.lst [V.bl true, .bl true]) := upd_same
        have U3 := U2.ext s13
        have g03 := ExtN.trans g1 (ExtN.trans g2 (ExtN.of s13))
        have hth13 := ExtN.sqt g03 hth12
        have hdu13 := ExtN.sqt g03 hdu12
        have e213 := ExtN.trans e212 g03
        clear s13 g03
        revert hl3' U3 hth13 hdu13 e213
        generalize upd G2 l3 (.lst [V.bl true, .bl true]) = G3
        intro hl3' U3 hth13 hdu13 e213
        have v0 : (ψ.set 7 (some (.ref l3)))[0]? = some (some (.ref c)) := gs_ne (by decide) r0
        have v2 : (ψ.set 7 (some (.ref l3)))[2]? = some (some (.ref p)) := gs_ne (by decide) r2
        have v3 : (ψ.set 7 (some (.ref l3)))[3]? = some (some (.str k)) := gs_ne (by decide) r3
        have v4 : (ψ.set 7 (some (.ref l3)))[4]? = some (some (.ref th)) := gs_ne (by decide) r4
        have v6 : (ψ.set 7 (some (.ref l3)))[6]? = some (some (.ref du)) := gs_ne (by decide) r6
        have v7 : (ψ.set 7 (some (.ref l3)))[7]? = some (some (.ref l3)) := gs_eq (by omega)
        have vl : (ψ.set 7 (some (.ref l3))).length = 8 := by rw [List.length_set]; exact rl
        show tSeq _ _ _ (ψ.set 7 (some (.ref l3))) _
        generalize ψ.set 7 (some (.ref l3)) = χ at v0 v2 v3 v4 v6 v7 vl
        -- + short_ring, twice
        refine ⟨_, v7, _, v4, _, v3, th, _, k, rfl, hth13, hwh, hk, U3, fun G4 g4 U4 => ?_⟩
        refine ⟨_, v3, _, v4, rfl, th, _, k, rfl, ExtN.sqt g4 hth13, hwh, hk, U4, fun G5 g5 U5 => ?_⟩
        refine ⟨by show 2 ≤ sizeLine; omega, fun l4 hl4 => ?_⟩
        have s14 := Same.new (o := .lst [V.non, .non]) hl4
        have g35 := ExtN.trans g4 (ExtN.trans g5 (ExtN.of s14))
        refine ⟨l3, l4, _, _, rfl, rfl, g35 _ _ hl3' (fun _ z => by cases z), upd_same, by show 4 ≤ sizeLine; omega, fun l5 hl5 => ?_⟩
        have s15 := Same.new (o := .lst ([V.bl true, .bl true] ++ [V.non, .non])) hl5
        have hl5' : (upd (upd G5 l4 (.lst [V.non, .non])) l5 (.lst ([V.bl true, .bl true] ++ [V.non, .non]))) l5 = some (.lst [V.bl true, .bl true, .non, .non]) := upd_same
        have U6 := (U5.ext s14).ext s15
        have g36 := ExtN.trans g35 (ExtN.of s15)
        have hth14 := ExtN.sqt g36 hth13
        have hdu14 := ExtN.sqt g36 hdu13
        have e214 := ExtN.trans e213 g36
        clear s14 s15 g35 g36
        revert hl5' U6 hth14 hdu14 e214
        generalize upd (upd G5 l4 (.lst [V.non, .non])) l5 (.lst ([V.bl true, .bl true] ++ [V.non, .non])) = G6
        intro hl5' U6 hth14 hdu14 e214
        have w0 : (χ.set 7 (some (.ref l5)))[0]? = some (some (.ref c)) := gs_ne (by decide) v0
        have w2 : (χ.set 7 (some (.ref l5)))[2]? = some (some (.ref p)) := gs_ne (by decide) v2
        have w3 : (χ.set 7 (some (.ref l5)))[3]? = some (some (.str k)) := gs_ne (by decide) v3
        have w4 : (χ.set 7 (some (.ref l5)))[4]? = some (some (.ref th)) := gs_ne (by decide) v4
        have w6 : (χ.set 7 (some (.ref l5)))[6]? = some (some (.ref du)) := gs_ne (by decide) v6
        have w7 : (χ.set 7 (some (.ref l5)))[7]? = some (some (.ref l5)) := gs_eq (by omega)
        have wl : (χ.set 7 (some (.ref l5))).length = 8 := by rw [List.length_set]; exact vl
        refine gname_by ?_
        generalize χ.set 7 (some (.ref l5)) = ω at w0 w2 w3 w4 w6 w7 wl
        have dt : ∀ {Hx : Hp} {l : Addr}, Hx l = some (.lst [V.bl true, .bl true, .non, .non]) → Dp K Hx (.ref l) dTold := fun h => .lst (.inl (.inl h)) (.cons (.bl true) (.cons (.bl true) (.cons .non (.cons .non .nil))))
        obtain ⟨td1, td2, td3, td4⟩ := told_shown
        refine ⟨_, w7, l5, dTold, rfl, dt hl5', td1, td2, td3, td4, ?_⟩
        refine ⟨by show 4 ≤ sizeLine; omega, fun l6 hl6 => ?_⟩
        have s16 := Same.new (o := .lst [V.bl true, .bl true, .non, .non]) hl6
        refine ⟨l6, dTold, rfl, dt upd_same, td1, td2, td3, td4, ?_⟩
        refine ⟨rfl, false, by rw [vstr_eq, decide_eq_true rfl]; rfl, iteF ?_⟩
        -- column_of(due, k) != thing
        have hdu16 := Same.sqt s16 hdu14
        have hth16 := Same.sqt s16 hth14
        refine ⟨_, w6, _, w3, du, dueL k t, k, rfl, hdu16, dtx, hk, U6.ext s16, fun G7 g7 U7 => ⟨fun r => absurd r (due_nr tx hk nr), fun _ cc hcc => ?_⟩⟩
        rw [due_col tx hk nr] at hcc
        refine ⟨_, w4, .tuple ((colL k t).map PyData.int), .tuple ((colL k t).map PyData.int), .tup hcc (dp_ints _), .tup (ExtN.sqt g7 hth16) (dp_ints _), shaped_ints _, shaped_ints _, ?_⟩
        rw [eqv_ints, decide_eq_true rfl]
        refine ⟨false, rfl, iteF ?_⟩
        exact ⟨ExtN.trans e214 (ExtN.trans (ExtN.of s16) g7), U7, w0, w2, wl⟩
    · obtain ⟨eN, hTb, f0, f2, hl⟩ := pv
      exact ⟨rel2.trans (RelC.ofN eN), hc2.ext eN, hTb, f0, hl⟩
end
end Eo
set_option maxHeartbeats 4000000
namespace Eo
open PySem PySem.Spec PyProof.Rows L2 LamX
open C8 (pe_gc)
section
variable {P : Program} {w : World} {K : PySem.W.Frag} {mg : Str → Option Value} {base : Heap}
/-! ### law -/
def spLaw (K : PySem.W.Frag) (T : List (Addr × Str)) : Sp := fun vs H Q _ => ∃ (a : Addr) (ns : List Int), vs = [.ref a] ∧ SqL K H a (ti ns) ∧ ns.length ≤ 1000 ∧ Tabs T H ∧ ∀ H', Q (.bl true) H'
def NLaw : List Str := ["_law_script", "_law_turn"]
theorem sc_law : FnScope NLaw ["_law_script"] (defScope sLaw) := ⟨rfl, rfl, rfl, by decide +kernel, rfl, by decide +kernel, by decide +kernel⟩
theorem ok_law {T : List (Addr × Str)} (D : Df K mg "law" sLaw) (G : Gd K mg) (C__law_cup_of : CalE P w K mg base CX0 1 "_law_cup_of" (spCup K)) (C__law_right : CalG P w K mg base 7 "_law_right" ["_law_cup"] (spRight T)) : CalG P w K mg base 8 "law" ["_law_script"] (spLaw K T) := by
  have nd := sc_law.nd
  refine D.okG sc_law (fun _ _ _ _ _ _ us hl => match us, hl with | [_], _ => rfl) (fun vs H Q E h => ?_) (fun f cdv A outer s H vs Q E hr hgd h => ?_)
  · obtain ⟨a, ns, rfl, _⟩ := h
    rfl
  · refine ⟨_, (pss_one (ps_ret (pe_callB (cr_all rfl) rfl G.b_all (by decide +kernel) (pa_cons (pe_lc (own := [("_law_turn", 1)]) (g := gName 1) (tt := tYes) rfl nd (pi_range1 rfl G.b_range (pa_cons (pe_callB (call_max2 rfl) rfl G.b_max (by decide +kernel) (pa_cons pe_int (pa_cons (pe_callB (call_min2 rfl) rfl G.b_min (by decide +kernel) (pa_cons (pe_callB call_len rfl G.b_len (by decide +kernel) (pa_cons (pv 0) pa_nil)) (pa_cons pe_int pa_nil))) pa_nil))) pa_nil)) (blkOk_by (N := NLaw) (sc := defScope sLaw) (by decide +kernel)) (fun _ _ _ _ _ => pg_name (i := 1) nd rfl (Or.inl rfl)) (fun _ _ _ _ _ => pts_nil) (fun _ _ _ _ _ => (pe_calG C__law_right hr hgd rfl (pa_cons (pe_cal C__law_cup_of (hr.mono (by decide)) rfl pass0 (pa_cons (pv 0) (pa_cons (pv 1) pa_nil))) pa_nil)))) pa_nil)))), ?_⟩
    obtain ⟨a, ns, rfl, ha, hl, hT, q⟩ := h
    have zl : (10000 : Nat) ≤ sizeLine := by decide
    refine ⟨_, rfl, _, ns.length, rfl, .inl ⟨_, ha, by rw [ti_len]⟩, ?_⟩
    refine ⟨_, _, rfl, ?_⟩
    have hmin : ∃ m : Int, (if (5 : Int) < (ns.length : Int) then (5 : Int) else (ns.length : Int)) = m ∧ 0 ≤ m ∧ m ≤ 5 := ⟨_, rfl, by split <;> omega, by split <;> omega⟩
    obtain ⟨m, hm, m0, m5⟩ := hmin
    rw [hm]
    refine ⟨_, _, rfl, ?_⟩
    have hmax : ∃ n : Nat, (if m > 2 then m else (2 : Int)) = (n : Int) ∧ n ≤ 5 := by
      by_cases h1 : m > 2
      · exact ⟨m.toNat, by rw [if_pos h1]; omega, by omega⟩
      · exact ⟨2, by rw [if_neg h1]; rfl, by omega⟩
    obtain ⟨n, hn, n5⟩ := hmax
    rw [hn]
    refine ⟨_, rfl, by omega, by omega, fun D hD => ?_⟩
    refine lc_it (walk_range (lo := 0) (n := ((n : Int)).toNat)) (fun i H' => ExtN H H' ∧ Tabs T H' ∧ H' D = some (.lst (List.replicate i (.bl true)))) ⟨ExtN.of (same_lst (Same.refl _) hD), hT.ext (same_lst (Same.refl _) hD), upd_same⟩ (fun _ _ _ _ => trivial) (fun i x Ha Hb hi p y => ?_) fun H1 p => ?_
    · obtain ⟨eN, hTa, hDl⟩ := p
      obtain ⟨e1, e2⟩ := y
      subst e1
      have e3 : x = .int (i : Int) := by rw [e2]; show V.int (0 + (i : Int)) = _; rw [Int.zero_add]
      subst e3
      rw [Int.toNat_natCast] at hi
      refine ⟨wipe_set _ _ _, yes_lc ?_⟩
      refine ⟨_, rfl, _, rfl, a, ns, i, rfl, ExtN.sql eN ha, hl, by omega, fun H2 c s2 hc hcn => ?_⟩
      refine ⟨c, rfl, hc, hTa.ext s2, fun H3 rc T3 => ?_⟩
      have hDc : D ≠ c := ne_of_none hDl hcn
      have hD3 : H3 D = some (.lst (List.replicate i (.bl true))) := rc _ _ hDc (s2 _ _ hDl) fun _ z => by cases z
      refine ⟨_, hD3, by rw [List.length_replicate]; omega, fun b o hb nt => ?_, tabs_lst hD3 T3, ?_⟩
      · have hb1 := eN b o hb nt
        have hb2 : b ≠ c := ne_of_none hb1 hcn
        have hb3 := rc b o hb2 (s2 _ _ hb1) nt
        rw [upd_ne (ne_of_none hb hD)]
        exact hb3
      · rw [upd_same, List.replicate_succ']
    · obtain ⟨eN, hTa, hDl⟩ := p
      rw [Int.toNat_natCast] at hDl
      refine ⟨D, List.replicate n true, rfl, .inl (.inl (by rw [hDl, List.map_replicate])), ?_⟩
      have e : (List.replicate n true).all id = true := by
        rw [List.all_eq_true]
        intro x hx
        exact List.eq_of_mem_replicate hx
      rw [e]
      exact q H1
end
end Eo
set_option maxHeartbeats 4000000
namespace Eo
open PySem PySem.Spec PyProof.Rows L2 LamX
/-! ### the law's end: the tables and the script are tracked, all else stands as it was -/
def hp0 (K : PySem.W.Frag) (o : Obj) (a : Addr) (xs : List V) (tb : List Addr) : Hp := fun b => if b ∈ tb then some (.tbl #[]) else if b = a ∧ K.lookup a = none then some (.frz o (.lst xs)) else none
section
variable {K : PySem.W.Frag} {o : Obj} {a : Addr} {xs : List V} {tb : List Addr}
theorem hp0_tab {b : Addr} (h : b ∈ tb) : hp0 K o a xs tb b = some (.tbl #[]) := if_pos h
theorem hp0_scr (h : a ∉ tb) (hk : K.lookup a = none) : hp0 K o a xs tb a = some (.frz o (.lst xs)) := (if_neg h).trans (if_pos ⟨rfl, hk⟩)
theorem hp0_none {b : Addr} (h : b ∉ tb) (hk : ¬ (b = a ∧ K.lookup a = none)) : hp0 K o a xs tb b = none := (if_neg h).trans (if_neg hk)
theorem hp0_cases {b : Addr} {u : HO} (h : hp0 K o a xs tb b = some u) : (b ∈ tb ∧ u = .tbl #[]) ∨ (b ∉ tb ∧ b = a ∧ K.lookup a = none ∧ u = .frz o (.lst xs)) := by
  by_cases h1 : b ∈ tb
  · rw [hp0_tab h1] at h
    exact .inl ⟨h1, (Option.some.inj h).symm⟩
  · by_cases h2 : b = a ∧ K.lookup a = none
    · have e : hp0 K o a xs tb b = some (.frz o (.lst xs)) := (if_neg h1).trans (if_pos h2)
      rw [e] at h
      exact .inr ⟨h1, h2.1, h2.2, (Option.some.inj h).symm⟩
    · rw [hp0_none h1 h2] at h
      cases h
end
def emptyT : Obj := { cls := .none, data := .fields #[] }
def scrO (vs : List Value) : Obj := { cls := .type "list", data := .seq vs.toArray }
theorem end_call {P : Program} {w : World} {K : PySem.W.Frag} {mg mb : Str → Option Value} {k : Nat} {fa a : Addr} {cs : List (Addr × Addr)} {x : Str} {sp : Sp} {s : Shared} {vs : List Value} {ns : List Int}
    (KX : K.In s.heap) (hns : s.heap.Ns mainGlobals mg) (hb : s.heap.Ns builtinsNs mb) (hbb : ∀ x : Str, x ≠ "__name__" → mb x = bootBuiltins x) (hlim : s.heap.NoLimit) (hg : s.gens = #[])
    (hT : ∀ p ∈ cs, s.heap.get? p.2 = some emptyT) (nT : ∀ p ∈ cs, K.lookup p.2 = none) (C : ∀ p ∈ cs, PySem.W.codeHdIn K p.1 p.2 = true)
    (hbm : ∃ (bm : Addr) (ob : Obj), mg "__builtins__" = some (.ref bm) ∧ bm ≠ builtinsNs ∧ s.heap.get? bm = some ob ∧ ob.cls = .type "module" ∧ ob.dict = some builtinsNs ∧ ob.data = .plain)
    (ha : s.heap.get? a = some (scrO vs)) (hi : IntsAre vs ns) (hl : ns.length ≤ sizeLine) (hr : Room k callerA)
    (F : ∀ base : Heap, K.In base → base.Ns mainGlobals mg → (∀ p ∈ cs, TabB base mg p.1 p.2) → ∃ fd : FuncData, FnG P w K mg base k fa fd [x] sp ∧ ∀ (s : Shared) (u : Value), BindsTo s fd ⟨[u], []⟩ [(x, u)])
    (hsp : ∀ H : Hp, (∀ p ∈ cs, H p.2 = some (.tbl #[])) → SqL K H a (ti ns) → sp [.ref a] H (fun v _ => v = .bl true) fun _ _ _ => False) :
    codeAny (model P w) callerA (.call (.ref fa) ⟨[.ref a], []⟩) (fun r s' => r = .ok (.ret (.bool true)) ∧ OldK s.heap s'.heap ∧ s'.os = s.os ∧ AllBare s'.gens) s := by
  have rv : Vals (ti ns) vs := vals_ints hi
  have lenV : vs.length = ns.length := by rw [← rv.length, ti_len]
  have memT : ∀ b, b ∈ cs.map (·.2) → s.heap.get? b = some emptyT := fun b h => by
    obtain ⟨p, hp, e⟩ := List.mem_map.mp h
    rw [← e]
    exact hT p hp
  have naT : a ∉ cs.map (·.2) := fun h => by
    have e := memT a h
    rw [ha] at e
    have e2 : Data.seq vs.toArray 0 = Data.fields #[] := congrArg Obj.data (Option.some.inj e)
    cases e2
  -- the heap that is tracked
  generalize hH : hp0 K (scrO vs) a (ti ns) (cs.map (·.2)) = H
  have cH : ∀ {b : Addr} {u : HO}, H b = some u → (b ∈ cs.map (·.2) ∧ u = .tbl #[]) ∨ (b ∉ cs.map (·.2) ∧ b = a ∧ K.lookup a = none ∧ u = .frz (scrO vs) (.lst (ti ns))) := fun h => hp0_cases (by rw [hH]; exact h)
  have tH : ∀ p ∈ cs, H p.2 = some (.tbl #[]) := fun p hp => by rw [← hH]; exact hp0_tab (List.mem_map.mpr ⟨p, hp, rfl⟩)
  have okH : HOk P w H s.heap := fun b u e => by
    rcases cH e with ⟨h1, rfl⟩ | ⟨_, rfl, _, rfl⟩
    · exact memT b h1
    · exact ⟨ha, by rw [ti_len]; exact hl, vs, 0, rv, ha⟩
  have scH : SqL K H a (ti ns) := by
    cases hk : K.lookup a with
    | none => exact .inl (.inr ⟨scrO vs, by rw [← hH]; exact hp0_scr naT hk⟩)
    | some ob =>
      have e := KX a ob hk
      rw [ha] at e
      cases e
      exact .inr ⟨_, vs.toArray, _, hk, rfl, rfl, rfl, by rw [List.size_toArray, lenV]; exact hl, by simpa using rv⟩
  -- what else stands is in the base
  have stay : ∀ {b : Addr} {ob : Obj}, s.heap.get? b = some ob → ob ≠ emptyT → ob ≠ scrO vs → H b = none := fun {b ob} e n1 n2 => by
    cases q : H b with
    | none => rfl
    | some u =>
      rcases cH q with ⟨h1, _⟩ | ⟨_, rfl, _, _⟩
      · have z := memT b h1
        rw [e] at z
        exact absurd (Option.some.inj z) n1
      · rw [ha] at e
        exact absurd (Option.some.inj e).symm n2
  have inB : ∀ {b : Addr} {ob : Obj}, s.heap.get? b = some ob → ob ≠ emptyT → ob ≠ scrO vs → (hidT s.heap H).get? b = some ob := fun e n1 n2 => hidT_get e (stay e n1 n2)
  have nsB : ∀ {b : Addr} {m : Str → Option Value}, s.heap.Ns b m → (hidT s.heap H).Ns b m := fun {b m} ⟨ob, es, ep, e, hd, r⟩ => by
    refine ⟨ob, es, ep, inB e (fun z => ?_) (fun z => ?_), hd, r⟩
    · rw [z] at hd
      cases hd
    · rw [z] at hd
      cases hd
  have kB : K.In (hidT s.heap H) := fun b ob e => hidT_get (KX b ob e) (by
    cases q : H b with
    | none => rfl
    | some u =>
      rcases cH q with ⟨h1, _⟩ | ⟨_, rfl, hk, _⟩
      · obtain ⟨p, hp, ep⟩ := List.mem_map.mp h1
        rw [← ep, nT p hp] at e
        cases e
      · rw [hk] at e
        cases e)
  have mB : L2.Mod K mg (hidT s.heap H) := ⟨kB, nsB hns, ⟨mb, nsB hb, hbb⟩, let ⟨mc, h1, h2⟩ := hlim; ⟨mc, nsB h1, h2⟩⟩
  have tB : ∀ p ∈ cs, TabB (hidT s.heap H) mg p.1 p.2 := fun p hp => by
    have hTp := hT p hp
    have gP : mainGlobals ≠ p.2 := fun z => by
      obtain ⟨ob, es, ep, e, hd, _⟩ := hns
      rw [z, hTp] at e
      cases e
      cases hd
    refine NdefX.tabB_of_K kB (C p hp) ?_ gP
    obtain ⟨bm, ob, b1, b2, b3, b4, b5, b6⟩ := hbm
    refine ⟨bm, ob, b1, b2, fun z => ?_, fun z => ?_, inB b3 (fun z => ?_) (fun z => ?_), b4, b5, b6⟩
    · obtain ⟨o2, es, ep, e, hd, _⟩ := hns
      rw [z, e] at b3
      cases b3
      rw [hd] at b6
      cases b6
    · rw [z, hTp] at b3
      cases b3
      cases b6
    · rw [z] at b6
      cases b6
    · rw [z] at b6
      cases b6
  have e0 : Env0 P w K mg (hidT s.heap H) callerA [] s H := ⟨rfl, mB, fun b ob e => of_hidT e, Nat.le_of_eq (hidT_size _ _), trivial, (fun b hb => absurd (show b ∈ ([] : List Addr) from hb) (by simp)), okH, AllBare.of_eq hg⟩
  obtain ⟨fd, FF, hbind⟩ := F _ kB (nsB hns) tB
  refine codeAny_mono (FF.run callerA [] s H ⟨[.ref a], []⟩ [.ref a] [.ref a] _ _ hr rfl e0 (hbind s (.ref a)) (.cons rfl .nil) (hsp H tH scH)) fun r s' h => ?_
  cases r with
  | error e => exact False.elim h
  | ok fl =>
    cases fl with
    | next => exact False.elim h
    | brk => exact False.elim h
    | cont => exact False.elim h
    | ret u =>
      obtain ⟨v, H', os, bare, un, ok', ru, q⟩ := h
      have q' : v = .bl true := q
      subst q'
      obtain rfl : u = Value.bool true := ru
      have was : ∀ b ob, b ∉ cs.map (·.2) → s.heap.get? b = some ob → s'.heap.get? b = some ob := fun b ob nb e => by
        cases hq : H b with
        | none => exact un.keep b ob e hq (fun z => absurd (show b ∈ ([] : List Addr) from z) (by simp)) (by simp)
        | some u =>
          rcases cH hq with ⟨h1, _⟩ | ⟨_, rfl, _, rfl⟩
          · exact absurd h1 nb
          · obtain ⟨z, _⟩ := ok' b _ (un.frzs b _ _ hq)
            rw [ha] at e
            cases e
            exact z
      have more : ∀ p ∈ cs, ∃ m : Array Value, s'.heap.get? p.2 = some { cls := .none, data := .fields m } := fun p hp => by
        obtain ⟨m, z⟩ := un.tbls p.2 #[] (tH p hp)
        exact ⟨_, ok' p.2 _ z⟩
      refine ⟨rfl, ⟨fun b ob e => ?_, fun b ob e => ?_⟩, os, bare⟩
      · by_cases hm : b ∈ cs.map (·.2)
        · obtain ⟨p, hp, rfl⟩ := List.mem_map.mp hm
          obtain ⟨m, hm2⟩ := more p hp
          rw [hT p hp] at e
          cases e
          have hcd := PySem.W.codeHd_of_K KX (C p hp)
          obtain ⟨oc, us, _, _, _, _, _, _, _, c1, c2, c3, c4, _⟩ := hcd
          exact .inr (.inl ⟨⟨p.1, oc, us, c1, c2, c3, c4⟩, rfl, #[], m, rfl, by rw [Array.empty_append]; exact hm2⟩)
        · exact .inl (was b ob hm e)
      · by_cases hm : b ∈ cs.map (·.2)
        · obtain ⟨p, hp, rfl⟩ := List.mem_map.mp hm
          obtain ⟨m, hm2⟩ := more p hp
          exact ⟨_, hm2⟩
        · exact ⟨ob, was b ob hm e⟩
end Eo
set_option maxHeartbeats 4000000
namespace Eo
open PySem PySem.Spec PyProof.Rows L2 LamX
/-! ### the head's facts as the walk's premises -/
abbrev pS : He.Defn := ("sorted_places", none)
abbrev pT : He.Defn := ("steps_of", none)
abbrev tabsT (K : PySem.W.Frag) : List (Addr × Str) := [((He.cT K pS).2, qSorted), ((He.cT K pT).2, qSteps)]
abbrev Says (w : World) (h : Heap) (K : PySem.W.Frag) : Prop := He.SaysX faL fnL [] tfL moreB w h K
section
variable {w : World} {K : PySem.W.Frag} {mg : Str → Option Value} {h : Heap}
theorem gd_of (KX : K.In h) (Gm : h.Ns mainGlobals mg) (c : Says w h K) : Gd K mg where
  b_isinstance := He.free_ok KX Gm (c.t.d.fact 31 (f := .free "isinstance") rfl)
  b_int := He.free_ok KX Gm (c.t.d.fact 32 (f := .free "int") rfl)
  b_bool := He.free_ok KX Gm (c.t.d.fact 33 (f := .free "bool") rfl)
  b_tuple := He.free_ok KX Gm (c.t.d.fact 34 (f := .free "tuple") rfl)
  b_str := He.free_ok KX Gm (c.t.d.fact 35 (f := .free "str") rfl)
  b_len := He.free_ok KX Gm (c.t.d.fact 36 (f := .free "len") rfl)
  b_enumerate := He.free_ok KX Gm (c.t.d.fact 37 (f := .free "enumerate") rfl)
  b_range := He.free_ok KX Gm (c.t.d.fact 38 (f := .free "range") rfl)
  b_sorted := He.free_ok KX Gm (c.t.d.fact 39 (f := .free "sorted") rfl)
  b_list := He.free_ok KX Gm (c.t.d.fact 40 (f := .free "list") rfl)
  b_all := He.free_ok KX Gm (c.t.d.fact 41 (f := .free "all") rfl)
  b_abs := He.free_ok KX Gm (c.t.d.fact 42 (f := .free "abs") rfl)
  b_divmod := He.free_ok KX Gm (c.t.d.fact 43 (f := .free "divmod") rfl)
  b_repr := He.free_ok KX Gm (c.t.d.fact 44 (f := .free "repr") rfl)
  b_max := He.free_ok KX Gm (c.t.d.fact 45 (f := .free "max") rfl)
  b_min := He.free_ok KX Gm (c.t.d.fact 46 (f := .free "min") rfl)
  c_MOST_PLACES := by
    obtain ⟨t, e⟩ := He.int_ok KX Gm (c.t.d.fact 47 (f := .int "MOST_PLACES" 60) rfl)
    exact ⟨_, e, t, rfl⟩
  c_MOST_LETTER := by
    obtain ⟨t, e⟩ := He.int_ok KX Gm (c.t.d.fact 48 (f := .int "MOST_LETTER" (10 ^ 18)) rfl)
    exact ⟨_, e, t, rfl⟩
  c_PAST := by
    obtain ⟨t, e⟩ := He.int_ok KX Gm (c.t.d.fact 49 (f := .int "PAST" (10 ^ 18 + 1)) rfl)
    exact ⟨_, e, t, rfl⟩
  c_MARK := by
    obtain ⟨t, e⟩ := He.int_ok KX Gm (c.t.d.fact 50 (f := .int "MARK" (-1)) rfl)
    exact ⟨_, e, t, rfl⟩
theorem df_is_integer (KX : K.In h) (Gm : h.Ns mainGlobals mg) (c : Says w h K) : Df K mg "is_integer" sIsInteger := by
  obtain ⟨fd, F⟩ := c.t.d.def_ 0 (d := dd "is_integer" sIsInteger) rfl
  exact ⟨_, fd, F, He.glo_ok KX Gm (c.t.d.fact 0 (f := .glo "is_integer") rfl)⟩
theorem df_is_between (KX : K.In h) (Gm : h.Ns mainGlobals mg) (c : Says w h K) : Df K mg "is_between" sIsBetween := by
  obtain ⟨fd, F⟩ := c.t.d.def_ 1 (d := dd "is_between" sIsBetween) rfl
  exact ⟨_, fd, F, He.glo_ok KX Gm (c.t.d.fact 1 (f := .glo "is_between") rfl)⟩
theorem df_is_letter (KX : K.In h) (Gm : h.Ns mainGlobals mg) (c : Says w h K) : Df K mg "is_letter" sIsLetter := by
  obtain ⟨fd, F⟩ := c.t.d.def_ 2 (d := dd "is_letter" sIsLetter) rfl
  exact ⟨_, fd, F, He.glo_ok KX Gm (c.t.d.fact 2 (f := .glo "is_letter") rfl)⟩
theorem df_check_text (KX : K.In h) (Gm : h.Ns mainGlobals mg) (c : Says w h K) : Df K mg "check_text" sCheckText := by
  obtain ⟨fd, F⟩ := c.t.d.def_ 3 (d := dd "check_text" sCheckText) rfl
  exact ⟨_, fd, F, He.glo_ok KX Gm (c.t.d.fact 3 (f := .glo "check_text") rfl)⟩
theorem df_check_kind (KX : K.In h) (Gm : h.Ns mainGlobals mg) (c : Says w h K) : Df K mg "check_kind" sCheckKind := by
  obtain ⟨fd, F⟩ := c.t.d.def_ 4 (d := dd "check_kind" sCheckKind) rfl
  exact ⟨_, fd, F, He.glo_ok KX Gm (c.t.d.fact 4 (f := .glo "check_kind") rfl)⟩
theorem df_check_places (KX : K.In h) (Gm : h.Ns mainGlobals mg) (c : Says w h K) : Df K mg "check_places" sCheckPlaces := by
  obtain ⟨fd, F⟩ := c.t.d.def_ 5 (d := dd "check_places" sCheckPlaces) rfl
  exact ⟨_, fd, F, He.glo_ok KX Gm (c.t.d.fact 5 (f := .glo "check_places") rfl)⟩
theorem df_ranks_of (KX : K.In h) (Gm : h.Ns mainGlobals mg) (c : Says w h K) : Df K mg "ranks_of" sRanksOf := by
  obtain ⟨fd, F⟩ := c.t.d.def_ 6 (d := dd "ranks_of" sRanksOf) rfl
  exact ⟨_, fd, F, He.glo_ok KX Gm (c.t.d.fact 6 (f := .glo "ranks_of") rfl)⟩
theorem df_next_rank (KX : K.In h) (Gm : h.Ns mainGlobals mg) (c : Says w h K) : Df K mg "next_rank" sNextRank := by
  obtain ⟨fd, F⟩ := c.t.d.def_ 7 (d := dd "next_rank" sNextRank) rfl
  exact ⟨_, fd, F, He.glo_ok KX Gm (c.t.d.fact 7 (f := .glo "next_rank") rfl)⟩
theorem df_rises_of (KX : K.In h) (Gm : h.Ns mainGlobals mg) (c : Says w h K) : Df K mg "rises_of" sRisesOf := by
  obtain ⟨fd, F⟩ := c.t.d.def_ 8 (d := dd "rises_of" sRisesOf) rfl
  exact ⟨_, fd, F, He.glo_ok KX Gm (c.t.d.fact 8 (f := .glo "rises_of") rfl)⟩
theorem df_end_of (KX : K.In h) (Gm : h.Ns mainGlobals mg) (c : Says w h K) : Df K mg "end_of" sEndOf := by
  obtain ⟨fd, F⟩ := c.t.d.def_ 10 (d := dd "end_of" sEndOf) rfl
  exact ⟨_, fd, F, He.glo_ok KX Gm (c.t.d.fact 9 (f := .glo "end_of") rfl)⟩
theorem df_sorted_places (KX : K.In h) (Gm : h.Ns mainGlobals mg) (c : Says w h K) : Df K mg "sorted_places" sSortedPlaces := by
  obtain ⟨fd, F⟩ := c.t.d.def_ 11 (d := dd "sorted_places" sSortedPlaces) rfl
  exact ⟨_, fd, F, He.glo_ok KX Gm (c.t.d.fact 10 (f := .glo "sorted_places") rfl)⟩
theorem df_order_of (KX : K.In h) (Gm : h.Ns mainGlobals mg) (c : Says w h K) : Df K mg "order_of" sOrderOf := by
  obtain ⟨fd, F⟩ := c.t.d.def_ 12 (d := dd "order_of" sOrderOf) rfl
  exact ⟨_, fd, F, He.glo_ok KX Gm (c.t.d.fact 11 (f := .glo "order_of") rfl)⟩
theorem df_column_of (KX : K.In h) (Gm : h.Ns mainGlobals mg) (c : Says w h K) : Df K mg "column_of" sColumnOf := by
  obtain ⟨fd, F⟩ := c.t.d.def_ 13 (d := dd "column_of" sColumnOf) rfl
  exact ⟨_, fd, F, He.glo_ok KX Gm (c.t.d.fact 12 (f := .glo "column_of") rfl)⟩
theorem df_check_column (KX : K.In h) (Gm : h.Ns mainGlobals mg) (c : Says w h K) : Df K mg "check_column" sCheckColumn := by
  obtain ⟨fd, F⟩ := c.t.d.def_ 14 (d := dd "check_column" sCheckColumn) rfl
  exact ⟨_, fd, F, He.glo_ok KX Gm (c.t.d.fact 13 (f := .glo "check_column") rfl)⟩
theorem df_steps_of (KX : K.In h) (Gm : h.Ns mainGlobals mg) (c : Says w h K) : Df K mg "steps_of" sStepsOf := by
  obtain ⟨fd, F⟩ := c.t.d.def_ 15 (d := dd "steps_of" sStepsOf) rfl
  exact ⟨_, fd, F, He.glo_ok KX Gm (c.t.d.fact 14 (f := .glo "steps_of") rfl)⟩
theorem df_ring_from (KX : K.In h) (Gm : h.Ns mainGlobals mg) (c : Says w h K) : Df K mg "ring_from" sRingFrom := by
  obtain ⟨fd, F⟩ := c.t.d.def_ 16 (d := dd "ring_from" sRingFrom) rfl
  exact ⟨_, fd, F, He.glo_ok KX Gm (c.t.d.fact 15 (f := .glo "ring_from") rfl)⟩
theorem df_is_marked (KX : K.In h) (Gm : h.Ns mainGlobals mg) (c : Says w h K) : Df K mg "is_marked" sIsMarked := by
  obtain ⟨fd, F⟩ := c.t.d.def_ 17 (d := dd "is_marked" sIsMarked) rfl
  exact ⟨_, fd, F, He.glo_ok KX Gm (c.t.d.fact 16 (f := .glo "is_marked") rfl)⟩
theorem df_is_whole (KX : K.In h) (Gm : h.Ns mainGlobals mg) (c : Says w h K) : Df K mg "is_whole" sIsWhole := by
  obtain ⟨fd, F⟩ := c.t.d.def_ 18 (d := dd "is_whole" sIsWhole) rfl
  exact ⟨_, fd, F, He.glo_ok KX Gm (c.t.d.fact 17 (f := .glo "is_whole") rfl)⟩
theorem df_is_column (KX : K.In h) (Gm : h.Ns mainGlobals mg) (c : Says w h K) : Df K mg "is_column" sIsColumn := by
  obtain ⟨fd, F⟩ := c.t.d.def_ 19 (d := dd "is_column" sIsColumn) rfl
  exact ⟨_, fd, F, He.glo_ok KX Gm (c.t.d.fact 18 (f := .glo "is_column") rfl)⟩
theorem df_text_of (KX : K.In h) (Gm : h.Ns mainGlobals mg) (c : Says w h K) : Df K mg "text_of" sTextOf := by
  obtain ⟨fd, F⟩ := c.t.d.def_ 20 (d := dd "text_of" sTextOf) rfl
  exact ⟨_, fd, F, He.glo_ok KX Gm (c.t.d.fact 19 (f := .glo "text_of") rfl)⟩
theorem df_short_ring (KX : K.In h) (Gm : h.Ns mainGlobals mg) (c : Says w h K) : Df K mg "short_ring" sShortRing := by
  obtain ⟨fd, F⟩ := c.t.d.def_ 21 (d := dd "short_ring" sShortRing) rfl
  exact ⟨_, fd, F, He.glo_ok KX Gm (c.t.d.fact 20 (f := .glo "short_ring") rfl)⟩
theorem df__law_cup_of (KX : K.In h) (Gm : h.Ns mainGlobals mg) (c : Says w h K) : Df K mg "_law_cup_of" sCupOf := by
  obtain ⟨fd, F⟩ := c.t.d.def_ 22 (d := dd "_law_cup_of" sCupOf) rfl
  exact ⟨_, fd, F, He.glo_ok KX Gm (c.t.d.fact 21 (f := .glo "_law_cup_of") rfl)⟩
theorem df__law_sip (KX : K.In h) (Gm : h.Ns mainGlobals mg) (c : Says w h K) : Df K mg "_law_sip" sSip := by
  obtain ⟨fd, F⟩ := c.t.d.def_ 23 (d := dd "_law_sip" sSip) rfl
  exact ⟨_, fd, F, He.glo_ok KX Gm (c.t.d.fact 22 (f := .glo "_law_sip") rfl)⟩
theorem df__law_pick (KX : K.In h) (Gm : h.Ns mainGlobals mg) (c : Says w h K) : Df K mg "_law_pick" sPick := by
  obtain ⟨fd, F⟩ := c.t.d.def_ 24 (d := dd "_law_pick" sPick) rfl
  exact ⟨_, fd, F, He.glo_ok KX Gm (c.t.d.fact 23 (f := .glo "_law_pick") rfl)⟩
theorem df__law_drawn_line (KX : K.In h) (Gm : h.Ns mainGlobals mg) (c : Says w h K) : Df K mg "_law_drawn_line" sDrawnLine := by
  obtain ⟨fd, F⟩ := c.t.d.def_ 25 (d := dd "_law_drawn_line" sDrawnLine) rfl
  exact ⟨_, fd, F, He.glo_ok KX Gm (c.t.d.fact 24 (f := .glo "_law_drawn_line") rfl)⟩
theorem df__law_column_told (KX : K.In h) (Gm : h.Ns mainGlobals mg) (c : Says w h K) : Df K mg "_law_column_told" sColumnTold := by
  obtain ⟨fd, F⟩ := c.t.d.def_ 26 (d := dd "_law_column_told" sColumnTold) rfl
  exact ⟨_, fd, F, He.glo_ok KX Gm (c.t.d.fact 25 (f := .glo "_law_column_told") rfl)⟩
theorem df__law_right (KX : K.In h) (Gm : h.Ns mainGlobals mg) (c : Says w h K) : Df K mg "_law_right" sRight := by
  obtain ⟨fd, F⟩ := c.t.d.def_ 27 (d := dd "_law_right" sRight) rfl
  exact ⟨_, fd, F, He.glo_ok KX Gm (c.t.d.fact 26 (f := .glo "_law_right") rfl)⟩
theorem df_law (KX : K.In h) (Gm : h.Ns mainGlobals mg) (c : Says w h K) : Df K mg "law" sLaw := by
  obtain ⟨fd, F⟩ := c.t.d.def_ 28 (d := dd "law" sLaw) rfl
  exact ⟨_, fd, F, He.glo_ok KX Gm (c.t.d.fact 27 (f := .glo "law") rfl)⟩
theorem dfc_sorted_places (KX : K.In h) (Gm : h.Ns mainGlobals mg) (c : Says w h K) : DfC K mg "sorted_places" sSortedPlaces (He.cT K pS).1 := by
  obtain ⟨fd, F⟩ := c.t.d.def_ 11 (d := dd "sorted_places" sSortedPlaces) rfl
  refine ⟨_, fd, F, He.glo_ok KX Gm (c.t.d.fact 10 (f := .glo "sorted_places") rfl), ?_⟩
  obtain ⟨oc, od, dV, kV, doc, pm, an, cdv, ct, osl, rfl, lk, hcd, _, _⟩ := F.ex
  obtain ⟨cc, e⟩ := He.codeIn_ref hcd
  have e2 : He.codeOf K pS = cc := He.codeOf_eq lk e
  show cdv = .ref (He.codeOf K pS)
  rw [e2, e]
theorem dfc_steps_of (KX : K.In h) (Gm : h.Ns mainGlobals mg) (c : Says w h K) : DfC K mg "steps_of" sStepsOf (He.cT K pT).1 := by
  obtain ⟨fd, F⟩ := c.t.d.def_ 15 (d := dd "steps_of" sStepsOf) rfl
  refine ⟨_, fd, F, He.glo_ok KX Gm (c.t.d.fact 14 (f := .glo "steps_of") rfl), ?_⟩
  obtain ⟨oc, od, dV, kV, doc, pm, an, cdv, ct, osl, rfl, lk, hcd, _, _⟩ := F.ex
  obtain ⟨cc, e⟩ := He.codeIn_ref hcd
  have e2 : He.codeOf K pT = cc := He.codeOf_eq lk e
  show cdv = .ref (He.codeOf K pT)
  rw [e2, e]
theorem gk_of (KX : K.In h) (Gm : h.Ns mainGlobals mg) (c : Says w h K) : GK K mg (He.ga K "KINDS") := by
  obtain ⟨_, m⟩ := He.ba c.more
  obtain ⟨m1, _⟩ := He.ba m
  exact ⟨⟨_, He.glo_ok KX Gm (c.t.d.fact 30 (f := .glo "KINDS") rfl), rfl⟩, fun H => He.tupB_ok m1 H⟩
theorem gr_of (KX : K.In h) (Gm : h.Ns mainGlobals mg) (c : Says w h K) : GR K mg (He.ga K "Repeated") := by
  obtain ⟨_, m⟩ := He.ba c.more
  obtain ⟨_, m⟩ := He.ba m
  obtain ⟨_, m⟩ := He.ba m
  obtain ⟨_, m⟩ := He.ba m
  obtain ⟨_, m⟩ := He.ba m
  obtain ⟨_, m⟩ := He.ba m
  obtain ⟨m1, m⟩ := He.ba m
  obtain ⟨m2, m⟩ := He.ba m
  obtain ⟨m3, m⟩ := He.ba m
  exact ⟨He.glo_ok KX Gm (c.t.d.fact 29 (f := .glo "Repeated") rfl), m1, He.keep_ok (c.t.d.fact 58 (f := .keep "Repeated") rfl), of_decide_eq_true m2, of_decide_eq_true m3, He.exm_ok (c.t.d.fact 57 (f := .exm "Repeated" "Repeated" true) rfl)⟩
theorem prop_of (c : Says w h K) : PropOf K (He.ga K "Order") "places" (propA K) (getA K) := by
  obtain ⟨_, m⟩ := He.ba c.more
  obtain ⟨_, m⟩ := He.ba m
  obtain ⟨m1, m⟩ := He.ba m
  obtain ⟨m2, m⟩ := He.ba m
  obtain ⟨m3, m⟩ := He.ba m
  obtain ⟨m4, m⟩ := He.ba m
  refine ⟨He.eqO_ok m1, He.eqO_ok m2, of_decide_eq_true m3, ?_⟩
  unfold getA
  split at m4
  · rename_i g rest e
    rw [e]
    exact ⟨rest, rfl⟩
  · cases m4
theorem getter_of (c : Says w h K) (dP : fnWat K (getA K) = valP) : ∃ fd, FnP K "places" "Order.places" sPlaces (getA K) fd := by
  obtain ⟨_, m⟩ := He.ba c.more
  obtain ⟨_, m⟩ := He.ba m
  obtain ⟨_, m⟩ := He.ba m
  obtain ⟨_, m⟩ := He.ba m
  obtain ⟨_, m⟩ := He.ba m
  obtain ⟨_, m⟩ := He.ba m
  obtain ⟨_, m⟩ := He.ba m
  obtain ⟨_, m⟩ := He.ba m
  obtain ⟨_, m⟩ := He.ba m
  obtain ⟨m1, m2⟩ := He.ba m
  unfold fnWat at dP
  cases q : K.lookup (getA K) with
  | none =>
    rw [q] at dP
    cases dP
  | some o =>
    obtain ⟨oc, od, dt, osl⟩ := o
    rw [q] at dP m2
    cases dt with
    | func fd =>
      obtain ⟨a1, a2, a3, a4, a5, a6, a7, a8, a9, a10, a11, a12, a13, a14, a15⟩ := fd
      have e2 : (some (a1, a2, a3, a4, a5, a6, a7, a15) : FnW) = some (("places" : Str), ("Order.places" : Str), defArgs sPlaces, FuncBody.stmts (defBody sPlaces), defScope sPlaces, mainGlobals, ([] : List (Str × Addr)), builtinsNs) := dP
      simp only [Option.some.injEq, Prod.mk.injEq] at e2
      obtain ⟨b1, b2, b3, b4, b5, b6, b7, b8⟩ := e2
      subst b1 b2 b3 b4 b5 b6 b7 b8
      obtain ⟨m3, m4⟩ := He.ba m2
      exact ⟨_, ⟨oc, od, _, _, _, _, _, _, _, osl, rfl, q, m3, .inl ⟨rfl, of_decide_eq_true m4⟩, .inl rfl⟩, m1⟩
    | _ => cases m2
theorem go_of (KX : K.In h) (Gm : h.Ns mainGlobals mg) (c : Says w h K) (dP : fnWat K (getA K) = valP) : GO K mg (He.ga K "Order") := by
  obtain ⟨fd, F⟩ := c.t.d.def_ 9 (d := dInit) rfl
  obtain ⟨gfd, FG⟩ := getter_of c dP
  exact ⟨He.glo_ok KX Gm (c.t.d.fact 28 (f := .glo "Order") rfl), He.cls_ok (c.t.d.fact 51 (f := .cls "Order") rfl), He.noat_ok (c.t.d.fact 52 (f := .noat "Order" "row") rfl), He.noat_ok (c.t.d.fact 53 (f := .noat "Order" "style") rfl), He.noat_ok (c.t.d.fact 54 (f := .noat "Order" "standing") rfl), He.noat_ok (c.t.d.fact 55 (f := .noat "Order" "steep") rfl), ⟨_, fd, F, He.mkr_ok (c.t.d.fact 56 (f := .mkr "Order") rfl)⟩, ⟨_, _, gfd, prop_of c, FG⟩⟩
theorem tabs_ne (c : Says w h K) : (He.cT K pS).2 ≠ (He.cT K pT).2 := of_decide_eq_true (He.ba c.more).1
/-- the law's def keeps its promise -/
theorem law_of {P : Program} {base : Heap} (KX : K.In h) (Gm : h.Ns mainGlobals mg) (c : Says w h K) (dP : fnWat K (getA K) = valP) (tB : ∀ p ∈ tfL.map (He.cT K), TabB base mg p.1 p.2) : CalG P w K mg base 8 "law" ["_law_script"] (spLaw K (tabsT K)) := by
  have G := gd_of KX Gm c
  have R := gr_of KX Gm c
  have O := go_of KX Gm c dP
  have tS : TabB base mg (He.cT K pS).1 (He.cT K pS).2 := tB _ (List.mem_map.mpr ⟨pS, by simp [tfL], rfl⟩)
  have tT : TabB base mg (He.cT K pT).1 (He.cT K pT).2 := tB _ (List.mem_map.mpr ⟨pT, by simp [tfL], rfl⟩)
  have ne := tabs_ne c
  have huS : ∀ q ∈ tabsT K, q.1 = (He.cT K pS).2 → q.2 = qSorted := fun q hq e => by
    rcases List.mem_cons.mp hq with z | z
    · rw [z]
    · rw [List.mem_singleton.mp z] at e
      exact absurd e.symm ne
  have huT : ∀ q ∈ tabsT K, q.1 = (He.cT K pT).2 → q.2 = qSteps := fun q hq e => by
    rcases List.mem_cons.mp hq with z | z
    · rw [z] at e
      exact absurd e ne
    · rw [List.mem_singleton.mp z]
  have c1 : CalE P w K mg base CX0 1 "is_integer" spIsInteger := ok_isInteger (df_is_integer KX Gm c) G
  have c2 : CalE P w K mg base CX0 2 "is_between" spIsBetween := ok_isBetween (df_is_between KX Gm c) c1
  have c3 : CalE P w K mg base CX0 3 "is_letter" spIsLetter := ok_isLetter (df_is_letter KX Gm c) G c2
  have c4 : CalE P w K mg base CX0 4 "check_text" (spCheckText K) := ok_checkText (df_check_text KX Gm c) G c3
  have c5 : CalE P w K mg base CX0 1 "check_kind" spCheckKind := ok_checkKind (df_check_kind KX Gm c) G (gk_of KX Gm c)
  have c6 : CalE P w K mg base CX0 3 "check_places" (spCheckPlaces K) := ok_checkPlaces (df_check_places KX Gm c) G c2
  have c7 : CalE P w K mg base CX0 1 "ranks_of" (spRanks K) := ok_ranks (df_ranks_of KX Gm c) G
  have c8 : CalE P w K mg base CX0 1 "next_rank" (spNextRank K) := ok_nextRank (df_next_rank KX Gm c) G
  have c9 : CalE P w K mg base CX0 2 "rises_of" (spRises K) := ok_rises (df_rises_of KX Gm c) G c7 c8
  have c10 : CalE P w K mg base CX0 1 "end_of" (spEndOf K) := ok_endOf (df_end_of KX Gm c) G
  have c11 : CalE P w K mg base (L2.CX P w) 2 "sorted_places" (spSorted K (tabsT K) (He.ga K "Repeated")) := ok_sorted (dfc_sorted_places KX Gm c) G R tS (List.mem_cons_self ..) huS c10
  have c12 : CalE P w K mg base (L2.CX P w) 5 "column_of" (spColumn K (tabsT K) (He.ga K "Repeated")) := ok_column (df_column_of KX Gm c) G c4 c5 c11
  obtain ⟨fi, fdi, FI, M⟩ := O.init
  have c13 := ok_init (P := P) (w := w) (mg := mg) (base := base) FI O c6 c5 c7 c9
  have c14 : CalE P w K mg base CX0 6 "order_of" (spOrderOf K (tabsT K) (He.ga K "Order")) := ok_orderOf (df_order_of KX Gm c) G O M FI c13 c4 c5 c11
  have c15 : CalE P w K mg base CX0 4 "check_column" (spCheckColumn K) := ok_checkColumn (df_check_column KX Gm c) G c3
  have c16 : CalE P w K mg base CX0 2 "steps_of" (spSteps K (tabsT K)) := ok_steps (dfc_steps_of KX Gm c) G tT (List.mem_cons_of_mem _ (List.mem_cons_self ..)) huT
  have c17 : CalE P w K mg base CX0 1 "ring_from" (spRing K) := ok_ring (df_ring_from KX Gm c) G
  have c18 : CalE P w K mg base CX0 1 "is_marked" (spMarked K) := ok_marked (df_is_marked KX Gm c) G
  have c19 : CalE P w K mg base CX0 3 "is_whole" (spWhole K (tabsT K)) := ok_whole (df_is_whole KX Gm c) G c18 c17 c16
  have c20 := ok_isColumn (P := P) (w := w) (base := base) (df_is_column KX Gm c) G c15 c5 c19
  have c21 := ok_textOf (P := P) (w := w) (base := base) (df_text_of KX Gm c) G c15 c5 c17 c16 c19
  have c22 := ok_short (P := P) (w := w) (base := base) (df_short_ring KX Gm c) G c15 c5 c17 c16
  have c23 : CalE P w K mg base CX0 1 "_law_cup_of" (spCup K) := ok_cup (df__law_cup_of KX Gm c) G
  have c24 : CalE P w K mg base CX0 1 "_law_sip" (spSip K) := ok_sip (df__law_sip KX Gm c) G
  have c25 : CalE P w K mg base CX0 2 "_law_pick" (spPick K) := ok_pick (df__law_pick KX Gm c) G c24
  have c26 : CalE P w K mg base CX0 3 "_law_drawn_line" (spDrawn K) := ok_drawn (df__law_drawn_line KX Gm c) G c24 c25
  have c27 : CalE P w K mg base CX0 6 "_law_column_told" (spTold K (tabsT K)) := ok_told (df__law_column_told KX Gm c) G R c12
  obtain ⟨gfd, FG⟩ := getter_of c dP
  have c28 := ok_right (P := P) (w := w) (base := base) (df__law_right KX Gm c) G O (prop_of c) FG c26 c27 c14 c21 c20 c22 c12
  exact ok_law (df_law KX Gm c) G c23 c28
end
/-! ### the end -/
theorem walk_end {l : PySem.W.OpenLaw} {q : Program} {loose : List Str} {XP : (Str → Option Value) → Heap → Prop} {d : DefRec} (hn : l.most = some 63) (hdf : d.params.defaults = []) (hd : d.name = ("law" : Str)) :
    PySem.W.WalkO q loose XP hookP.says l.row.toRowW d [] (fun f vs => PySem.call f vs) := by
  refine Att.attach_callB hn hdf fun w s₀ s₁ mg mb fa o pm cd doc a vs ns G Y ho hdd hcd hmg hobj hints hlen hbits hg => ?_
  obtain ⟨K, KX, c, dP⟩ := Y
  have hmg2 : mg ("law" : Str) = some (.ref fa) := by
    rw [← hd]
    exact hmg
  refine end_call (K := K) (cs := tfL.map (He.cT K)) (k := 8) (x := "_law_script") (sp := spLaw K (tabsT K)) KX G.T.g G.T.b G.T.builtins G.T.nolimit hg (fun p hp => ?_) (fun p hp => ?_) (fun p hp => ?_) G.T.bmain hobj hints (Nat.le_trans hlen (by decide)) ⟨rfl, by decide, by decide⟩ (fun base kB nB tB => ?_) fun H tH sH => ?_
  · obtain ⟨t, ht, rfl⟩ := List.mem_map.mp hp
    exact c.empty t ht
  · obtain ⟨t, ht, rfl⟩ := List.mem_map.mp hp
    exact c.out t ht
  · obtain ⟨t, ht, rfl⟩ := List.mem_map.mp hp
    exact c.hd t ht
  · obtain ⟨f, fd, F, hm, _, _, hb⟩ := law_of (P := l.prog) KX G.T.g c dP tB
    rw [hmg2] at hm
    cases hm
    exact ⟨fd, F, fun s u => hb s [u] rfl⟩
  · refine ⟨a, ns, rfl, sH, by omega, fun p hp => ?_, fun _ => rfl⟩
    rcases List.mem_cons.mp hp with z | z
    · rw [z]
      exact TabS.nil (tH _ (List.mem_map.mpr ⟨pS, by simp [tfL], rfl⟩))
    · rw [List.mem_singleton.mp z]
      exact TabS.nil (tH _ (List.mem_map.mpr ⟨pT, by simp [tfL], rfl⟩))
end Eo
set_option maxHeartbeats 0
open PySem PySem.W PySem.Calls PyProof.Rows
theorem PySem.Challenge.cw_endorders_k16_whole_texts_read_back_holds : PySem.Challenge.rw_endorders_k16_whole_texts_read_back.Holds := by
  w_on; o_law
  refine HandSHeadRun.head_any (r := OpenLaw.row PySem.Challenge.rw_endorders_k16_whole_texts_read_back) (q := view (OpenLaw.row PySem.Challenge.rw_endorders_k16_whole_texts_read_back).prog [45]) (H := Eo.hookP) (ob := Eo.obT) (M := 6000) (loose := Eo.looseL) (d := HandSHeadRun.topDef (OpenLaw.row PySem.Challenge.rw_endorders_k16_whole_texts_read_back).prog 45) (kwd := []) Eo.obT_eq
    (by kernel_rfl) (fun s => by kernel_rfl) Eo.run (by kernel_rfl) (by kernel_rfl) (by kernel_rfl) (by rfl) (by first | assumption | decide +kernel) (by decide +kernel) ⟨rfl, rfl, rfl, rfl, rfl, by decide +kernel⟩ ?hw ?hc
  case hw => w_witness2
  case hc => exact Eo.walk_end (l := PySem.Challenge.rw_endorders_k16_whole_texts_read_back) rfl (by kernel_rfl) (by kernel_rfl)
