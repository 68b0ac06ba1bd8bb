import PyProof.Rows.All
import Wide.All
import OpenK.AllK
import Wide.FinOn
import KE.GoesMore
import KE.GoesEnum
import PyProof.Draws
import HandS.ForMost
import HandS.Walk
import HandS.IsInst
import HandS.Conv
import HandS.NoneIn
import HandS.Wide
import HandS.Defaults
import HandS.Head0
import HandS.Head1
import HandS.Head2
import HandS.HeadEnd
import HandS.HeadHook1
import HandS.HeadHook2
import PySem.Challenge.RW_bitfloor_k11_values
set_option Elab.async false
set_option linter.all false
set_option maxRecDepth 100000
set_option maxHeartbeats 4000000
/-! enumerate over a tuple as a walked thing; the text by places; the facts of the top -/
namespace K11
open PySem PySem.Spec PyProof.Rows L2
/-! ### enumerate(t) of a tuple: the making, one turn, the end; then as a walked thing of the hand layer -/
/-- enumerate(v) makes two cells, whatever v is that an iterator begins on -/
theorem enum1_meets {v : Value} {o : Obj} {Z : Heap → Prop} (B : Begins v o Z) :
    Meets (Builtin.«enumerate.__new__» ⟨[.type "enumerate", v], []⟩) (fun _ R s => Z s.heap ∧
      R (.ok (.ret (.ref (s.heap.push o).objs.size))) { s with heap := (s.heap.push o).push ⟨.type "enumerate", none, .fields #[.none, .bool false, .ref s.heap.objs.size, rawInt 0, .none, .none], #[]⟩ }) := by
  refine .of_wp fun prog w A R s both => ?_
  rcases s with ⟨hp, gs, dr, tk, os⟩
  rcases both with ⟨hz, fin⟩
  have small := sub_enumerate
  have begin_ : ∀ {A' : Around} {E Q : Value → Shared → Prop}, Q (.ref hp.objs.size) ⟨hp.push o, gs, dr, tk, os⟩ → wpAny (model prog w) A' (pyIter v) Q E ⟨hp, gs, dr, tk, os⟩ :=
    fun k => B.iter prog w _ _ ⟨hp, gs, dr, tk, os⟩ _ hz k
  wp_walk using begin_
  refine wpAny_stack_any fun st => wpAny_pure ?_
  split
  next c _ _ _ _ _ =>
    rcases (c == Value.type "enumerate") with _ | _ <;> (wp_walk using begin_; exact ⟨_, rfl, fin⟩)
  next => wp_walk using begin_; exact ⟨_, rfl, fin⟩
theorem enum1_call {prog : Program} {w : World} {A : Around} {E Q : Value → Shared → Prop} {s : Shared} {v : Value} {o : Obj} {Z : Heap → Prop} (B : Begins v o Z) (hz : Z s.heap)
    (k : ∀ g, IsEnum g (s.heap.objs.size + 1) s.heap.objs.size 0 .none → g.get? s.heap.objs.size = some o → (∀ b u, s.heap.get? b = some u → g.get? b = some u) → Q (.ref (s.heap.objs.size + 1)) { s with heap := g }) :
    wpAny (model prog w) A (call (.type "enumerate") [v]) Q E s := by
  have n1 : (s.heap.push o).objs.size = s.heap.objs.size + 1 := Heap.size_push ..
  have stay : ∀ (en : Obj) b u, s.heap.get? b = some u → ((s.heap.push o).push en).get? b = some u := fun en b u e => Heap.get?_push_of_some _ (Heap.get?_push_of_some _ e)
  refine callType_new F.called_enumerate (by decide) (F.typeCall_enumerate_1 _) (F.newCall_enumerate_1 _) (fun x => F.args_object_init_2 x _) F.entry_enumerate_new (enum1_meets B) ⟨hz, ?_⟩
  rw [n1]
  have en := Heap.get?_push_size (s.heap.push o) (o := ⟨.type "enumerate", none, .fields #[.none, .bool false, .ref s.heap.objs.size, rawInt 0, .none, .none], #[]⟩) rfl
  rw [n1] at en
  exact ⟨⟨_, en, rfl⟩, k _ en (Heap.get?_push_of_some _ (Heap.get?_push_size _ B.free)) (stay _)⟩
/-- the cells of enumerate(t) ahead of turn i: e the enumerate, c the tuple's iterator -/
structure EnT (t e c : Addr) (i : Nat) (g : Heap) : Prop where
  en : ∃ old, IsEnum g e c ((i : Nat) : Int) old
  it : g.IsTupleIter c t i
  ec : e ≠ c
  et : e ≠ t
  tc : t ≠ c
theorem two_mem {b e c : Addr} (h : b ∈ [e, c]) : b = e ∨ b = c := by simpa using h
theorem EnT.at {t e c : Addr} {i : Nat} {g g' : Heap} (S : EnT t e c i g) (k : ∀ b ∈ [e, c], ∀ u, g.get? b = some u → g'.get? b = some u) : EnT t e c i g' := by
  obtain ⟨old, he⟩ := S.en
  exact ⟨⟨old, k e (by simp) _ he⟩, S.it.at (k c (by simp)), S.ec, S.et, S.tc⟩
theorem EnT.lt {t e c : Addr} {i : Nat} {g : Heap} (S : EnT t e c i g) {b : Addr} (hb : b ∈ [e, c]) : b < g.objs.size := by
  obtain ⟨old, he⟩ := S.en
  obtain ⟨u, hu, _⟩ := S.it
  rcases two_mem hb with z | z
  · rw [z]
    exact Heap.lt_size he
  · rw [z]
    exact Heap.lt_size hu
/-- t walked by enumerate: at turn i a new pair of i and the i-th item -/
def Itet (K : PySem.W.Frag) (t : Addr) : It where
  go := fun i H => ∃ zs z, SqT K H t zs ∧ zs[i]? = some z
  yld := fun i H v H' => ∃ T z, v = .ref T ∧ H T = none ∧ H' = upd H T (.tup [.int (i : Nat), z]) ∧ ∀ zs, SqT K H t zs → zs[i]? = some z
  stop := fun i H => ∃ zs, SqT K H t zs ∧ zs.length = i
section
variable {X : Cx} {pins : List (Addr × Obj)} {σ : L2.St} {H : Hp} {s : Shared} {t e c : Addr} {i : Nat} {E : Value → Shared → Prop} {elts : List Expr} {kk : Nat} {tpos : Pos}
theorem enT_item (hc : X.calm = true) (I : Inv X pins σ H s) (free : ∀ b ∈ [e, c], FpOk X pins H b) (S : EnT t e c i s.heap) (go : (Itet X.K t).go i H) :
    wpAny (model X.prog X.w) X.A (pyNext (.ref e)) (fun r s1 => ∃ u, r = some u ∧
      wpAny (model X.prog X.w) X.A (letOwnedTupleGo (.Tuple elts kk tpos) (.ref e) u) (fun _ s2 => ∃ x H', Inv X pins σ H' s2 ∧ RelV x u ∧ (Itet X.K t).yld i H x H' ∧ EnT t e c (i + 1) s2.heap ∧ ∀ b ∈ [e, c], H' b = none) E s1) E s := by
  obtain ⟨zs, z, hzs, hz⟩ := go
  obtain ⟨us, ru, isT, _⟩ := I.tuple hzs
  obtain ⟨u, hu, rz⟩ := ru.get hz
  obtain ⟨old, he⟩ := S.en
  have inside : i < us.toArray.size := by
    have q := (List.getElem?_eq_some_iff.mp hu).1
    rwa [List.size_toArray]
  have apart : e ∉ [c, t] := fun m => by
    have m' : e = c ∨ e = t := by simpa using m
    exact m'.elim S.ec S.et
  have calm1 : X.A.in1.handled = none := I.ok.hd hc
  have eLt : e < s.heap.objs.size := S.lt (by simp)
  refine wpAny_pyNext_enum_itemD (Draws.tuple calm1 c t S.tc us.toArray) he ⟨S.it, isT⟩ inside S.ec apart fun y g tk hy out st pair _ kept => ⟨_, rfl, ?_⟩
  have same : y = u := by
    have q : us.toArray[i]? = some y := hy
    rw [List.getElem?_toArray, hu] at q
    exact (Option.some.inj q).symm
  rw [same] at out pair
  refine wpAny_letOwnedTupleGo_enum (s := { s with heap := g, toks := tk + 1 }) out fun g2 en2 sb => ?_
  have pair2 : g2.get? s.heap.objs.size = some { cls := .type "tuple", data := .seq #[.int i tk, u] } := (sb.2 _ (Nat.ne_of_gt eLt)).trans pair
  have fresh : H s.heap.objs.size = none := I.hok.fresh (Nat.le_refl _)
  have others : ∀ b ob, b ∉ [e, c] → s.heap.get? b = some ob → g2.get? b = some ob := fun b ob nb q => by
    have ne1 : b ≠ e := fun z => nb (by rw [z]; simp)
    have ne2 : b ≠ c := fun z => nb (by rw [z]; simp)
    exact (sb.2 b ne1).trans (kept b ob ne1 ne2 q)
  have laid : ObjOk X.prog X.w (upd H s.heap.objs.size (.tup [.int (i : Nat), z])) g2 s.heap.objs.size (.tup [.int (i : Nat), z]) :=
    ⟨show 2 ≤ sizeLine by decide, _, .cons ⟨tk, rfl⟩ (.cons rz .nil), _, pair2, rfl, _, rfl⟩
  have I2 := I.turnedNew (t' := tk + 1) others free (Nat.le_refl _) laid
  have nextE : IsEnum g2 e c (((i + 1 : Nat) : Nat) : Int) u := by
    have q : ((i + 1 : Nat) : Int) = (i : Int) + 1 := by omega
    rw [q]
    exact en2
  refine ⟨.ref s.heap.objs.size, _, I2, rfl, ⟨_, z, rfl, fresh, rfl, fun zs' h' => ?_⟩, ⟨⟨u, nextE⟩, st.1.at fun ob q => (sb.2 c S.ec.symm).trans q, S.ec, S.et, S.tc⟩, fun b hb => ?_⟩
  · rw [I.tuple_inj h' hzs]
    exact hz
  · rw [upd_ne (Nat.ne_of_lt (S.lt hb))]
    exact (free b hb).1
theorem enT_done (hc : X.calm = true) (I : Inv X pins σ H s) (free : ∀ b ∈ [e, c], FpOk X pins H b) (S : EnT t e c i s.heap) (stop : (Itet X.K t).stop i H) :
    wpAny (model X.prog X.w) X.A (pyNext (.ref e)) (fun r s1 => r = none ∧ Inv X pins σ H s1) E s := by
  obtain ⟨zs, hzs, len⟩ := stop
  obtain ⟨us, ru, isT, _⟩ := I.tuple hzs
  obtain ⟨old, he⟩ := S.en
  have calm1 : X.A.in1.handled = none := I.ok.hd hc
  have all : us.toArray.size = i := by rw [List.size_toArray, ← ru.length, len]
  obtain ⟨q0, q1, _, q3, q4, q5⟩ := free c (by simp)
  refine wpAny_pyNext_enum_endD (Draws.tuple calm1 c t S.tc us.toArray) he ⟨by rw [all]; exact S.it, isT⟩ fun g keep => ⟨rfl, ?_⟩
  exact I.turned (t' := s.toks) (fun b ob nb q => keep b ob nb q) q0 q1 q3 q4 q5
end
theorem turn_enumT {P : Program} {w : World} {K : PySem.W.Frag} {elts : List Expr} {kk : Nat} {tpos : Pos} (t e c : Addr) : Turn P w K (.Tuple elts kk tpos) (Itet K t) [e, c] e (EnT t e c) where
  mem := List.mem_cons_self
  obj := fun i g S b hb => by
    obtain ⟨old, he⟩ := S.en
    obtain ⟨u, hu, _, du⟩ := S.it
    rcases two_mem hb with z | z
    · rw [z]
      exact ⟨_, he, fun v q => nomatch q⟩
    · rw [z]
      exact ⟨u, hu, fun v q => by rw [du] at q; cases q⟩
  keep := fun i g g' S k => S.at k
  item := fun X hP hw hK hc i pins s σ H E I free S go => by
    cases hP
    cases hw
    cases hK
    exact enT_item hc I free S go
  done := fun X hP hw hK hc i pins s σ H E I free S stop => by
    cases hP
    cases hw
    cases hK
    exact enT_done hc I free S stop
  self := fun A i s Q E S h => by
    obtain ⟨old, he⟩ := S.en
    exact wpAny_pyIter_enum he h
def iEnumT (K : PySem.W.Frag) (ta : TA) : TI := fun σ H R => ta σ H fun vs H1 => ∃ a xs, vs = [.ref a] ∧ SqT K H1 a xs ∧ R (Itet K a) H1
theorem pi_enumT {X : Cx} {e : Expr} {ta : TA} {p pos tpos : Pos} {elts : List Expr} {kk : Nat} (hg : Gl X "enumerate") (hm : X.mg "enumerate" = none) (ha : PA X [e] ta) (hs : starEach [e] X.env = [(false, eval e X.env)] := by rfl) :
    PI X (.Tuple elts kk tpos) (.Call (.Name "enumerate" p) [e] [] pos) (iEnumT X.K ta) where
  run := fun pins s σ H R I h => by
    refine Call_ (ld_blt I hg hm boot_enumerate (callWith_type1 (thn (ha.run pos pins s σ H _ I h) ?_) hs rfl))
    rintro us s1 ⟨vs, H1, I1, rel, t, zs, rfl, hzs, more⟩
    obtain ⟨u, rfl, hu⟩ : ∃ u, us = [u] ∧ RelV (.ref t) u := by
      cases rel with
      | cons r rr =>
        cases rr
        exact ⟨_, rfl, r⟩
    cases (show u = Value.ref t from hu)
    obtain ⟨ws, _, isT, _⟩ := I1.tuple hzs
    have tLt : t < s1.heap.objs.size := isT.lt
    refine enum1_call (begins_tuple t ws.toArray) isT fun g en cell kept => wpAny_pyIter_enum en ?_
    refine ⟨s1.heap.objs.size + 1, [s1.heap.objs.size + 1, s1.heap.objs.size], _, _, H1, rfl, I1.kept (t' := s1.toks) kept, turn_enumT t _ _, ?_, ?_, more⟩
    · exact ⟨⟨_, en⟩, ⟨_, cell, rfl, rfl⟩, Nat.succ_ne_self _, Nat.ne_of_gt (Nat.lt_succ_of_lt tLt), Nat.ne_of_lt tLt⟩
    · intro b hb
      have above : s1.heap.objs.size ≤ b := by
        rcases two_mem hb with z | z
        · rw [z]
          exact Nat.le_succ _
        · exact Nat.le_of_eq z.symm
      exact I1.fpOk above (I1.hok.fresh above)
theorem walk_enumT {K : PySem.W.Frag} {a : Addr} {xs : List V} : Walk (Itet K a) xs.length (fun H => SqT K H a xs) (YPair (fun i => some (.int (i : Nat))) (fun i => xs[i]?)) where
  goes := fun i H lt sq => ⟨xs, xs[i], sq, List.getElem?_eq_getElem lt⟩
  stops := fun H sq => ⟨xs, sq, rfl⟩
  yields := fun i H v H' _ sq ⟨T, z, h1, h2, h3, h4⟩ => ⟨T, _, z, h1, h2, h3, rfl, h4 xs sq⟩
end K11
set_option maxHeartbeats 4000000
/-! The text by places, the facts of the top (printed by gen_kt.py). -/
namespace K11
open PySem PySem.Spec PyProof.Rows L2 He
def topS (i : Nat) : Stmt := PySem.Challenge.pw_bitfloor_k11_values.main.body.getD i (.Pass ⟨0, 0, 0, 0⟩)
abbrev s_power_of : Stmt := topS 5
abbrev s_is_wide : Stmt := topS 10
abbrev s_value_fits : Stmt := topS 11
abbrev s_part_wide : Stmt := topS 12
abbrev s_pick_wide : Stmt := topS 13
abbrev s_pair_wide : Stmt := topS 14
abbrev s_expr_wide : Stmt := topS 16
abbrev s_in_fits : Stmt := topS 17
abbrev s_out_fits : Stmt := topS 22
abbrev s_row_fits : Stmt := topS 23
abbrev s_face_of : Stmt := topS 24
abbrev s_top_face : Stmt := topS 25
abbrev s_faces : Stmt := topS 26
abbrev s_bits_turned : Stmt := topS 30
abbrev s_pair_value : Stmt := topS 31
abbrev s_expr_value : Stmt := topS 32
abbrev s_row_played : Stmt := topS 33
abbrev s_unit_played : Stmt := topS 34
abbrev s_unit_moved : Stmt := topS 35
abbrev s_held_in : Stmt := topS 36
abbrev s_law_next : Stmt := topS 41
abbrev s_law_same : Stmt := topS 42
abbrev s_law_power : Stmt := topS 43
abbrev s_law_any_value : Stmt := topS 44
abbrev s_law_module_by : Stmt := topS 45
abbrev s_law_due : Stmt := topS 46
abbrev s_law : Stmt := topS 47
abbrev s_Face_init : Stmt := inClass (topS 8) 0
abbrev s_Scope_init : Stmt := inClass (topS 9) 0
abbrev s_Scope_is_free : Stmt := inClass (topS 9) 1
abbrev s_Unit_init : Stmt := inClass (topS 28) 0
abbrev s_Sight_init : Stmt := inClass (topS 29) 0
abbrev s_Scene_init : Stmt := inClass (topS 37) 0
abbrev s_Scene_beat : Stmt := inClass (topS 37) 1
abbrev s_Scene_held : Stmt := inClass (topS 37) 2
abbrev s_Module_init : Stmt := inClass (topS 39) 0
/-- the function's record at an address -/
def fda (K : PySem.W.Frag) (a : Addr) : FuncData := match K.lookup a with
  | some ⟨_, _, .func fd, _⟩ => fd
  | _ => PySem.W.fnOf "x" "x" (defArgs (.Pass ⟨0, 0, 0, 0⟩)) [] (defScope (.Pass ⟨0, 0, 0, 0⟩)) .none .none .none .none none .none .none
theorem fda_eq {K : PySem.W.Frag} {a : Addr} {oc : Value} {od : Option Addr} {fd : FuncData} {osl : Array (Option Value)} (h : K.lookup a = some ⟨oc, od, .func fd, osl⟩) : fda K a = fd := by
  unfold fda
  rw [h]
/-- a def of the module -/
structure Dg (K : PySem.W.Frag) (mg : Str → Option Value) (x : Str) (st : Stmt) (ps : List Str) : Prop where
  fn : Fun K x x st (ga K x) (fda K (ga K x))
  bd : Binds K (fda K (ga K x)) ps []
  gl : mg x = some (.ref (ga K x))
/-- a method -/
structure Dm (K : PySem.W.Frag) (c m q : Str) (st : Stmt) (ps : List Str) : Prop where
  fn : Fun K m q st (ma K (ga K c) m) (fda K (ma K (ga K c) m))
  bd : Binds K (fda K (ma K (ga K c) m)) ps []
theorem fun_of {K : PySem.W.Frag} {x q : Str} {st : Stmt} {f : Addr} {fd : FuncData} (F : FunD K x q (defArgs st) (defBody st) (defScope st) [] [] f fd) : Fun K x q st f (fda K f) := by
  obtain ⟨oc, od, dV, kV, doc, pm, an, cdv, ct, osl, rfl, lk, hcd, hD, _⟩ := F.ex
  rcases hD with ⟨_, rfl⟩ | ⟨h, _⟩
  · exact ⟨⟨oc, od, kV, doc, pm, an, cdv, ct, osl, fda_eq lk, by rw [fda_eq lk]; exact lk, hcd⟩, F.kp⟩
  · exact absurd rfl h
theorem dg_of {K : PySem.W.Frag} {mg : Str → Option Value} {x : Str} {st : Stmt} {ps : List Str} {fd : FuncData} (F : FunD K x x (defArgs st) (defBody st) (defScope st) [] [] (ga K x) fd) (g : mg x = some (.ref (ga K x)))
    (h : ∀ (kV doc pm : Value) (an : Option Addr) (cdv ct : Value) (us : List Value), us.length = ps.length → bindArgs (PySem.W.fnOf x x (defArgs st) (defBody st) (defScope st) .none kV doc pm an cdv ct) ⟨us, []⟩ = pure (ps.zip us)) : Dg K mg x st ps :=
  ⟨fun_of F, (fun_of F).binds h, g⟩
theorem dm_of {K : PySem.W.Frag} {c m q : Str} {st : Stmt} {ps : List Str} {fd : FuncData} (F : FunD K m q (defArgs st) (defBody st) (defScope st) [] [] (ma K (ga K c) m) fd)
    (h : ∀ (kV doc pm : Value) (an : Option Addr) (cdv ct : Value) (us : List Value), us.length = ps.length → bindArgs (PySem.W.fnOf m q (defArgs st) (defBody st) (defScope st) .none kV doc pm an cdv ct) ⟨us, []⟩ = pure (ps.zip us)) : Dm K c m q st ps :=
  ⟨fun_of F, (fun_of F).binds h⟩
/-- an own class -/
structure Dc (K : PySem.W.Frag) (mg : Str → Option Value) (c : Str) : Prop where
  cl : Cls K (ga K c)
  mkr : Mk K (ga K c) (ma K (ga K c) "__init__")
  gl : mg c = some (.ref (ga K c))
/-- what the top has left -/
structure Tx (K : PySem.W.Frag) (mg : Str → Option Value) : Prop where
  power_of : Dg K mg "power_of" s_power_of ["wide"]
  is_wide : Dg K mg "is_wide" s_is_wide ["wide"]
  value_fits : Dg K mg "value_fits" s_value_fits ["value", "wide"]
  part_wide : Dg K mg "part_wide" s_part_wide ["scope", "expr"]
  pick_wide : Dg K mg "pick_wide" s_pick_wide ["scope", "expr"]
  pair_wide : Dg K mg "pair_wide" s_pair_wide ["scope", "expr"]
  expr_wide : Dg K mg "expr_wide" s_expr_wide ["scope", "expr"]
  in_fits : Dg K mg "in_fits" s_in_fits ["scope", "row"]
  out_fits : Dg K mg "out_fits" s_out_fits ["scope", "row"]
  row_fits : Dg K mg "row_fits" s_row_fits ["scope", "row"]
  face_of : Dg K mg "face_of" s_face_of ["module", "known", "line"]
  top_face : Dg K mg "top_face" s_top_face ["modules"]
  faces : Dg K mg "faces" s_faces ["modules"]
  bits_turned : Dg K mg "bits_turned" s_bits_turned ["value", "wide"]
  pair_value : Dg K mg "pair_value" s_pair_value ["word", "one", "other"]
  expr_value : Dg K mg "expr_value" s_expr_value ["sight", "expr"]
  row_played : Dg K mg "row_played" s_row_played ["unit", "sight", "row"]
  unit_played : Dg K mg "unit_played" s_unit_played ["unit", "fed"]
  unit_moved : Dg K mg "unit_moved" s_unit_moved ["unit"]
  held_in : Dg K mg "held_in" s_held_in ["unit", "path"]
  law_next : Dg K mg "_law_next" s_law_next ["_law_script", "_law_at"]
  law_same : Dg K mg "_law_same" s_law_same ["_law_found", "_law_due_here"]
  law_power : Dg K mg "_law_power" s_law_power ["_law_wide"]
  law_any_value : Dg K mg "_law_any_value" s_law_any_value ["_law_script", "_law_at", "_law_power_here"]
  law_module_by : Dg K mg "_law_module_by" s_law_module_by ["_law_wide", "_law_other", "_law_low", "_law_broad", "_law_value"]
  law_due : Dg K mg "_law_due" s_law_due ["_law_row", "_law_wide", "_law_other", "_law_low", "_law_broad", "_law_value"]
  law : Dg K mg "law" s_law ["_law_script"]
  Face_init : Dm K "Face" "__init__" "Face.__init__" s_Face_init ["self", "ins", "outs"]
  Scope_init : Dm K "Scope" "__init__" "Scope.__init__" s_Scope_init ["self", "known"]
  Scope_is_free : Dm K "Scope" "is_free" "Scope.is_free" s_Scope_is_free ["self", "name"]
  Unit_init : Dm K "Unit" "__init__" "Unit.__init__" s_Unit_init ["self", "known", "module"]
  Sight_init : Dm K "Sight" "__init__" "Sight.__init__" s_Sight_init ["self", "fed"]
  Scene_init : Dm K "Scene" "__init__" "Scene.__init__" s_Scene_init ["self", "modules"]
  Scene_beat : Dm K "Scene" "beat" "Scene.beat" s_Scene_beat ["self", "row"]
  Scene_held : Dm K "Scene" "held" "Scene.held" s_Scene_held ["self"]
  Module_init : Dm K "Module" "__init__" "Module.__init__" s_Module_init ["self", "name", "rows"]
  c_Face : Dc K mg "Face"
  c_Scope : Dc K mg "Scope"
  c_Unit : Dc K mg "Unit"
  c_Sight : Dc K mg "Sight"
  c_Scene : Dc K mg "Scene"
  c_Module : Dc K mg "Module"
  n_Face_ins : NoAttr K (ga K "Face") "ins"
  n_Face_outs : NoAttr K (ga K "Face") "outs"
  n_Scope_known : NoAttr K (ga K "Scope") "known"
  n_Scope_widths : NoAttr K (ga K "Scope") "widths"
  n_Scope_used : NoAttr K (ga K "Scope") "used"
  n_Scope_waiting : NoAttr K (ga K "Scope") "waiting"
  n_Scope_ins : NoAttr K (ga K "Scope") "ins"
  n_Scope_outs : NoAttr K (ga K "Scope") "outs"
  n_Unit_module : NoAttr K (ga K "Unit") "module"
  n_Unit_holding : NoAttr K (ga K "Unit") "holding"
  n_Unit_later : NoAttr K (ga K "Unit") "later"
  n_Unit_used : NoAttr K (ga K "Unit") "used"
  n_Sight_fed : NoAttr K (ga K "Sight") "fed"
  n_Sight_names : NoAttr K (ga K "Sight") "names"
  n_Sight_outs : NoAttr K (ga K "Sight") "outs"
  n_Sight_given : NoAttr K (ga K "Sight") "given"
  n_Scene_ins : NoAttr K (ga K "Scene") "ins"
  n_Scene_unit : NoAttr K (ga K "Scene") "unit"
  n_Module_name : NoAttr K (ga K "Module") "name"
  n_Module_rows : NoAttr K (ga K "Module") "rows"
  m_Scope_is_free : Meth K (ga K "Scope") "is_free" (ma K (ga K "Scope") "is_free")
  m_Scene_beat : Meth K (ga K "Scene") "beat" (ma K (ga K "Scene") "beat")
  m_Scene_held : Meth K (ga K "Scene") "held" (ma K (ga K "Scene") "held")
  z_len : mg "len" = none
  z_range : mg "range" = none
  z_list : mg "list" = none
  z_enumerate : mg "enumerate" = none
  z_zip : mg "zip" = none
  z_int : mg "int" = none
  z_tuple : mg "tuple" = none
  z_isinstance : mg "isinstance" = none
  z_dict : mg "dict" = none
  z_str : mg "str" = none
  z_bool : mg "bool" = none
  z_max : mg "max" = none
  z_all : mg "all" = none
  i_WIDEST : ∃ t, mg "WIDEST" = some (.int 16 t)
theorem sc_power_of : FnScope ["wide", "power", "place"] ["wide"] (defScope s_power_of) := ⟨rfl, rfl, rfl, by decide +kernel, rfl, by decide +kernel, by decide +kernel⟩
theorem sc_is_wide : FnScope ["wide"] ["wide"] (defScope s_is_wide) := ⟨rfl, rfl, rfl, by decide +kernel, rfl, by decide +kernel, by decide +kernel⟩
theorem sc_value_fits : FnScope ["value", "wide"] ["value", "wide"] (defScope s_value_fits) := ⟨rfl, rfl, rfl, by decide +kernel, rfl, by decide +kernel, by decide +kernel⟩
theorem sc_part_wide : FnScope ["scope", "expr", "whole"] ["scope", "expr"] (defScope s_part_wide) := ⟨rfl, rfl, rfl, by decide +kernel, rfl, by decide +kernel, by decide +kernel⟩
theorem sc_pick_wide : FnScope ["scope", "expr", "test", "one", "other", "part"] ["scope", "expr"] (defScope s_pick_wide) := ⟨rfl, rfl, rfl, by decide +kernel, rfl, by decide +kernel, by decide +kernel⟩
theorem sc_pair_wide : FnScope ["scope", "expr", "one", "other"] ["scope", "expr"] (defScope s_pair_wide) := ⟨rfl, rfl, rfl, by decide +kernel, rfl, by decide +kernel, by decide +kernel⟩
theorem sc_expr_wide : FnScope ["scope", "expr", "word"] ["scope", "expr"] (defScope s_expr_wide) := ⟨rfl, rfl, rfl, by decide +kernel, rfl, by decide +kernel, by decide +kernel⟩
theorem sc_in_fits : FnScope ["scope", "row", "word", "name", "wide"] ["scope", "row"] (defScope s_in_fits) := ⟨rfl, rfl, rfl, by decide +kernel, rfl, by decide +kernel, by decide +kernel⟩
theorem sc_out_fits : FnScope ["scope", "row", "word", "name", "expr", "wide", "other", "size"] ["scope", "row"] (defScope s_out_fits) := ⟨rfl, rfl, rfl, by decide +kernel, rfl, by decide +kernel, by decide +kernel⟩
theorem sc_row_fits : FnScope ["scope", "row"] ["scope", "row"] (defScope s_row_fits) := ⟨rfl, rfl, rfl, by decide +kernel, rfl, by decide +kernel, by decide +kernel⟩
theorem sc_face_of : FnScope ["module", "known", "line", "scope", "number", "row"] ["module", "known", "line"] (defScope s_face_of) := ⟨rfl, rfl, rfl, by decide +kernel, rfl, by decide +kernel, by decide +kernel⟩
theorem sc_top_face : FnScope ["modules", "known", "line", "module"] ["modules"] (defScope s_top_face) := ⟨rfl, rfl, rfl, by decide +kernel, rfl, by decide +kernel, by decide +kernel⟩
theorem sc_faces : FnScope ["modules", "face"] ["modules"] (defScope s_faces) := ⟨rfl, rfl, rfl, by decide +kernel, rfl, by decide +kernel, by decide +kernel⟩
theorem sc_bits_turned : FnScope ["value", "wide"] ["value", "wide"] (defScope s_bits_turned) := ⟨rfl, rfl, rfl, by decide +kernel, rfl, by decide +kernel, by decide +kernel⟩
theorem sc_pair_value : FnScope ["word", "one", "other", "value", "wide"] ["word", "one", "other"] (defScope s_pair_value) := ⟨rfl, rfl, rfl, by decide +kernel, rfl, by decide +kernel, by decide +kernel⟩
theorem sc_expr_value : FnScope ["sight", "expr", "word", "one"] ["sight", "expr"] (defScope s_expr_value) := ⟨rfl, rfl, rfl, by decide +kernel, rfl, by decide +kernel, by decide +kernel⟩
theorem sc_row_played : FnScope ["unit", "sight", "row", "word", "name", "values", "expr"] ["unit", "sight", "row"] (defScope s_row_played) := ⟨rfl, rfl, rfl, by decide +kernel, rfl, by decide +kernel, by decide +kernel⟩
theorem sc_unit_played : FnScope ["unit", "fed", "sight", "row"] ["unit", "fed"] (defScope s_unit_played) := ⟨rfl, rfl, rfl, by decide +kernel, rfl, by decide +kernel, by decide +kernel⟩
theorem sc_unit_moved : FnScope ["unit", "name"] ["unit"] (defScope s_unit_moved) := ⟨rfl, rfl, rfl, by decide +kernel, rfl, by decide +kernel, by decide +kernel⟩
theorem sc_held_in : FnScope ["unit", "path", "found", "name"] ["unit", "path"] (defScope s_held_in) := ⟨rfl, rfl, rfl, by decide +kernel, rfl, by decide +kernel, by decide +kernel⟩
theorem sc_law_next : FnScope ["_law_script", "_law_at", "_law_cell", "_law_figures", "_law_k", "_law_m"] ["_law_script", "_law_at"] (defScope s_law_next) := ⟨rfl, rfl, rfl, by decide +kernel, rfl, by decide +kernel, by decide +kernel⟩
theorem sc_law_same : FnScope ["_law_found", "_law_due_here", "_law_name", "_law_one", "_law_other"] ["_law_found", "_law_due_here"] (defScope s_law_same) := ⟨rfl, rfl, rfl, by decide +kernel, rfl, by decide +kernel, by decide +kernel⟩
theorem sc_law_power : FnScope ["_law_wide", "_law_power_here", "_law_k"] ["_law_wide"] (defScope s_law_power) := ⟨rfl, rfl, rfl, by decide +kernel, rfl, by decide +kernel, by decide +kernel⟩
theorem sc_law_any_value : FnScope ["_law_script", "_law_at", "_law_power_here", "_law_m", "_law_edges"] ["_law_script", "_law_at", "_law_power_here"] (defScope s_law_any_value) := ⟨rfl, rfl, rfl, by decide +kernel, rfl, by decide +kernel, by decide +kernel⟩
theorem sc_law_module_by : FnScope ["_law_wide", "_law_other", "_law_low", "_law_broad", "_law_value", "_law_a", "_law_b", "_law_d", "_law_rows", "_law_exprs", "_law_k", "_law_expr"] ["_law_wide", "_law_other", "_law_low", "_law_broad", "_law_value"] (defScope s_law_module_by) := ⟨rfl, rfl, rfl, by decide +kernel, rfl, by decide +kernel, by decide +kernel⟩
theorem sc_law_due : FnScope ["_law_row", "_law_wide", "_law_other", "_law_low", "_law_broad", "_law_value", "_law_a", "_law_b", "_law_c", "_law_d", "_law_power_here", "_law_due_here"] ["_law_row", "_law_wide", "_law_other", "_law_low", "_law_broad", "_law_value"] (defScope s_law_due) := ⟨rfl, rfl, rfl, by decide +kernel, rfl, by decide +kernel, by decide +kernel⟩
theorem sc_law : FnScope ["_law_script", "_law_at", "_law_turn", "_law_m", "_law_wide", "_law_other", "_law_low", "_law_broad", "_law_power_here", "_law_value", "_law_scene", "_law_k", "_law_row"] ["_law_script"] (defScope s_law) := ⟨rfl, rfl, rfl, by decide +kernel, rfl, by decide +kernel, by decide +kernel⟩
theorem sc_Face_init : FnScope ["self", "ins", "outs"] ["self", "ins", "outs"] (defScope s_Face_init) := ⟨rfl, rfl, rfl, by decide +kernel, rfl, by decide +kernel, by decide +kernel⟩
theorem sc_Scope_init : FnScope ["self", "known"] ["self", "known"] (defScope s_Scope_init) := ⟨rfl, rfl, rfl, by decide +kernel, rfl, by decide +kernel, by decide +kernel⟩
theorem sc_Scope_is_free : FnScope ["self", "name"] ["self", "name"] (defScope s_Scope_is_free) := ⟨rfl, rfl, rfl, by decide +kernel, rfl, by decide +kernel, by decide +kernel⟩
theorem sc_Unit_init : FnScope ["self", "known", "module", "row"] ["self", "known", "module"] (defScope s_Unit_init) := ⟨rfl, rfl, rfl, by decide +kernel, rfl, by decide +kernel, by decide +kernel⟩
theorem sc_Sight_init : FnScope ["self", "fed"] ["self", "fed"] (defScope s_Sight_init) := ⟨rfl, rfl, rfl, by decide +kernel, rfl, by decide +kernel, by decide +kernel⟩
theorem sc_Scene_init : FnScope ["self", "modules", "ins", "outs", "known", "module"] ["self", "modules"] (defScope s_Scene_init) := ⟨rfl, rfl, rfl, by decide +kernel, rfl, by decide +kernel, by decide +kernel⟩
theorem sc_Scene_beat : FnScope ["self", "row", "value", "face", "told", "name"] ["self", "row"] (defScope s_Scene_beat) := ⟨rfl, rfl, rfl, by decide +kernel, rfl, by decide +kernel, by decide +kernel⟩
theorem sc_Scene_held : FnScope ["self"] ["self"] (defScope s_Scene_held) := ⟨rfl, rfl, rfl, by decide +kernel, rfl, by decide +kernel, by decide +kernel⟩
theorem sc_Module_init : FnScope ["self", "name", "rows"] ["self", "name", "rows"] (defScope s_Module_init) := ⟨rfl, rfl, rfl, by decide +kernel, rfl, by decide +kernel, by decide +kernel⟩
end K11
set_option maxHeartbeats 4000000
/-! power_of, _law_power, is_wide, value_fits, bits_turned, pair_value -/
namespace K11
open PySem PySem.Spec PyProof.Rows L2 He
/-! ### mathematics -/
theorem p2_pos (n : Nat) : (0 : Int) < 2 ^ n := Int.pow_pos (by decide)
theorem p2_le {n m : Nat} (h : n ≤ m) : (2 : Int) ^ n ≤ 2 ^ m := by
  have q := Nat.pow_le_pow_right (n := 2) (by decide) h
  exact_mod_cast q
theorem p2_16 {n : Nat} (h : n ≤ 16) : (2 : Int) ^ n ≤ 65536 := by
  have := p2_le h
  simpa using this
theorem p2_lt {n : Nat} (h : n ≤ 16) : -(2 ^ 64) < (2 : Int) ^ n ∧ (2 : Int) ^ n < 2 ^ 64 := by
  have h1 := p2_16 h
  have h2 := p2_pos n
  constructor <;> omega
/-! ### heaps -/
theorem same_upd {H : Hp} {p : Addr} {o : HO} (h : H p = none) : Same H (upd H p o) := fun b x e => by
  rw [upd_ne (ne_of_none e h)]
  exact e
section
variable {P : Program} {w : World} {K : PySem.W.Frag} {mg : Str → Option Value} {base : Heap}
/-! ### power_of -/
def spPow : Sp := fun vs H Q _ => ∃ n : Nat, vs = [.int n] ∧ n ≤ 16 ∧ Q (.int (2 ^ n)) H
theorem ok_power_of (T : Tx K mg) : FnOk P w K mg base CX0 1 (ga K "power_of") (fda K (ga K "power_of")) ["wide"] spPow := by
  refine T.power_of.fn.ok sc_power_of (fun vs H Q E h => ?_) (fun cdv A outer s H vs Q E hr h => ?_)
  · obtain ⟨n, rfl, _⟩ := h
    rfl
  · obtain ⟨n, rfl, hn, q⟩ := h
    refine ⟨_, pss_cons (ps_set (i := 1) sc_power_of.nd rfl (.inl rfl) pe_int)
      (pss_cons (ps_for PassesOwn.never rfl (pi_range1 rfl T.z_range (pa_cons (pv 0) pa_nil)) (pg_name (i := 2) sc_power_of.nd rfl (.inl rfl))
        (pss_one (ps_set (i := 1) sc_power_of.nd rfl (.inl rfl) (pe_op op_mul (pv 1) pe_int))))
      (pss_one (ps_ret (pv 1)))), ?_⟩
    refine ⟨_, rfl, n, rfl, by omega, by omega, for_range (lo := 0) (n := n) (fun i σ H' => ∃ z, σ = [some (.int n), some (.int (2 ^ i)), z] ∧ H' = H) ⟨none, rfl, rfl⟩ ?_ ?_⟩
    · rintro i σ H' hi ⟨z, rfl, rfl⟩
      refine ⟨_, rfl, _, _, rfl, rfl, .inl (p2_lt (by omega)), some (.int (0 + i)), ?_, rfl⟩
      rw [Int.pow_succ]
      rfl
    · rintro σ H' ⟨z, rfl, rfl⟩
      exact ⟨_, rfl, q⟩
/-! ### _law_power -/
theorem ok_law_power (T : Tx K mg) : FnOk P w K mg base CX0 1 (ga K "_law_power") (fda K (ga K "_law_power")) ["_law_wide"] spPow := by
  refine T.law_power.fn.ok sc_law_power (fun vs H Q E h => ?_) (fun cdv A outer s H vs Q E hr h => ?_)
  · obtain ⟨n, rfl, _⟩ := h
    rfl
  · obtain ⟨n, rfl, hn, q⟩ := h
    refine ⟨_, pss_cons (ps_set (i := 1) sc_law_power.nd rfl (.inl rfl) pe_int)
      (pss_cons (ps_for PassesOwn.never rfl (pi_range1 rfl T.z_range (pa_cons (pv 0) pa_nil)) (pg_name (i := 2) sc_law_power.nd rfl (.inl rfl))
        (pss_one (ps_set (i := 1) sc_law_power.nd rfl (.inl rfl) (pe_op op_add (pv 1) (pv 1)))))
      (pss_one (ps_ret (pv 1)))), ?_⟩
    refine ⟨_, rfl, n, rfl, by omega, by omega, for_range (lo := 0) (n := n) (fun i σ H' => ∃ z, σ = [some (.int n), some (.int (2 ^ i)), z] ∧ H' = H) ⟨none, rfl, rfl⟩ ?_ ?_⟩
    · rintro i σ H' hi ⟨z, rfl, rfl⟩
      refine ⟨_, rfl, _, rfl, _, _, rfl, rfl, some (.int (0 + i)), ?_, rfl⟩
      rw [Int.pow_succ, Int.mul_comm, Int.two_mul]
      rfl
    · rintro σ H' ⟨z, rfl, rfl⟩
      exact ⟨_, rfl, q⟩
/-! ### is_wide, value_fits -/
def spWideOk : Sp := fun vs H Q _ => ∃ n : Nat, vs = [.int n] ∧ 1 ≤ n ∧ n ≤ 16 ∧ Q (.bl true) H
theorem ok_is_wide (T : Tx K mg) : FnOk P w K mg base CX0 1 (ga K "is_wide") (fda K (ga K "is_wide")) ["wide"] spWideOk := by
  refine T.is_wide.fn.ok sc_is_wide (fun vs H Q E h => ?_) (fun cdv A outer s H vs Q E hr h => ?_)
  · obtain ⟨n, rfl, _⟩ := h
    rfl
  · obtain ⟨n, rfl, h1, h2, q⟩ := h
    obtain ⟨t, hW⟩ := T.i_WIDEST
    refine ⟨_, pss_one (ps_ret (pe_chain op_le op_le pe_int (pv 0) (pe_glob (v := .int 16) rfl hW ⟨t, rfl⟩))), ?_⟩
    refine ⟨_, rfl, _, _, rfl, rfl, _, rfl, ?_⟩
    rw [decide_eq_true (show (1 : Int) ≤ n by omega)]
    refine iteT ⟨_, _, rfl, rfl, ?_⟩
    show Q (.bl (decide ((n : Int) ≤ 16))) H
    rw [decide_eq_true (show (n : Int) ≤ 16 by omega)]
    exact q
def spFits : Sp := fun vs H Q _ => ∃ (v : Int) (n : Nat), vs = [.int v, .int n] ∧ 1 ≤ n ∧ n ≤ 16 ∧ 0 ≤ v ∧ v < 2 ^ n ∧ Q (.bl true) H
theorem ok_value_fits (T : Tx K mg) : FnOk P w K mg base CX0 2 (ga K "value_fits") (fda K (ga K "value_fits")) ["value", "wide"] spFits := by
  have GW : FnOk P w K mg base CX0 1 _ _ _ _ := ok_is_wide T
  have GP : FnOk P w K mg base CX0 1 _ _ _ _ := ok_power_of T
  refine T.value_fits.fn.ok sc_value_fits (fun vs H Q E h => ?_) (fun cdv A outer s H vs Q E hr h => ?_)
  · obtain ⟨v, n, rfl, _⟩ := h
    rfl
  · obtain ⟨v, n, rfl, h1, h2, h3, h4, q⟩ := h
    refine ⟨_, pss_one (ps_ret (pe_and (pe_call GW hr (by rfl) T.is_wide.gl T.is_wide.fn.kp T.is_wide.bd .nil pass0 (pa_cons (pv 1) pa_nil))
      (pe_one (pe_chain op_le op_lt pe_int (pv 0) (pe_call GP hr (by rfl) T.power_of.gl T.power_of.fn.kp T.power_of.bd .nil pass0 (pa_cons (pv 1) pa_nil)))))), ?_⟩
    refine ⟨_, rfl, n, rfl, h1, h2, _, rfl, iteT ?_⟩
    refine ⟨_, rfl, _, _, rfl, rfl, _, rfl, ?_⟩
    rw [decide_eq_true h3]
    refine iteT ⟨_, rfl, n, rfl, h2, _, _, rfl, rfl, ?_⟩
    show Q (.bl (decide (v < 2 ^ n))) H
    rw [decide_eq_true h4]
    exact q
/-! ### bits_turned -/
def spTurned : Sp := fun vs H Q _ => ∃ (v : Int) (n : Nat), vs = [.int v, .int n] ∧ n ≤ 16 ∧ Q (.int (2 ^ n - 1 - v)) H
theorem ok_bits_turned (T : Tx K mg) : FnOk P w K mg base CX0 2 (ga K "bits_turned") (fda K (ga K "bits_turned")) ["value", "wide"] spTurned := by
  have GP : FnOk P w K mg base CX0 1 _ _ _ _ := ok_power_of T
  refine T.bits_turned.fn.ok sc_bits_turned (fun vs H Q E h => ?_) (fun cdv A outer s H vs Q E hr h => ?_)
  · obtain ⟨v, n, rfl, _⟩ := h
    rfl
  · obtain ⟨v, n, rfl, h2, q⟩ := h
    refine ⟨_, pss_one (ps_ret (pe_op op_sub (pe_op op_sub (pe_call GP hr (by rfl) T.power_of.gl T.power_of.fn.kp T.power_of.bd .nil pass0 (pa_cons (pv 1) pa_nil)) pe_int) (pv 0))), ?_⟩
    exact ⟨_, rfl, n, rfl, h2, _, _, rfl, rfl, _, rfl, _, _, rfl, rfl, q⟩
/-! ### pair_value -/
inductive Op2 where | and | or | xor | plus | less | same | join
def Op2.s : Op2 → Str
  | .and => "and" | .or => "or" | .xor => "xor" | .plus => "plus" | .less => "less" | .same => "same" | .join => "join"
/-- value and width of two values -/
def Op2.val : Op2 → Int → Nat → Int → Nat → Int
  | .and, a, _, b, _ => Builtin.bitAnd a b
  | .or, a, _, b, _ => Builtin.bitOr a b
  | .xor, a, _, b, _ => Builtin.bitXor a b
  | .plus, a, w, b, _ => (a + b) % 2 ^ w
  | .less, a, _, b, _ => if a < b then 1 else 0
  | .same, a, _, b, _ => if a = b then 1 else 0
  | .join, a, _, b, u => a * 2 ^ u + b
def Op2.wd : Op2 → Nat → Nat → Nat
  | .less, _, _ => 1
  | .same, _, _ => 1
  | .join, w, u => w + u
  | _, w, _ => w
/-- a test of a text's name against a written text: not that one -/
theorem if_ne {i : Nat} {a b : Str} {t : TS} {D : Ends} {σ : L2.St} {H : Hp} (hs : σ[i]? = some (some (.str a))) (h : a ≠ b) (q : D.nx σ H) : tIfS (tTest (tOp rEq (tVar i) (tC (.str b)))) t tNext D σ H := by
  refine ⟨_, hs, rfl, _, rfl, ?_⟩
  have e : decide (V.str a = V.str b) = false := decide_eq_false fun z => h (V.str.inj z)
  rw [e]
  exact iteF q
theorem if_eq {i : Nat} {a : Str} {t u : TS} {D : Ends} {σ : L2.St} {H : Hp} (hs : σ[i]? = some (some (.str a))) (q : t D σ H) : tIfS (tTest (tOp rEq (tVar i) (tC (.str a)))) t u D σ H := by
  refine ⟨_, hs, rfl, _, rfl, ?_⟩
  rw [decide_eq_true rfl]
  exact iteT q
def spPair : Sp := fun vs H Q _ => ∃ (o : Op2) (p q : Addr) (a b : Int) (n m : Nat), vs = [.str o.s, .ref p, .ref q] ∧ H p = some (.tup [.int a, .int n]) ∧ H q = some (.tup [.int b, .int m]) ∧ n ≤ 16 ∧ m ≤ 16 ∧ -(2 ^ 64) < a ∧ a < 2 ^ 64 ∧
  ∀ r H', H r = none → H' = upd H r (.tup [.int (o.val a n b m), .int (o.wd n m)]) → Q (.ref r) H'
theorem ok_pair_value (T : Tx K mg) : FnOk P w K mg base CX0 2 (ga K "pair_value") (fda K (ga K "pair_value")) ["word", "one", "other"] spPair := by
  have GP : FnOk P w K mg base CX0 1 _ _ _ _ := ok_power_of T
  refine T.pair_value.fn.ok sc_pair_value (fun vs H Q E h => ?_) (fun cdv A outer s H vs Q E hr h => ?_)
  · obtain ⟨o, p, q, a, b, n, m, rfl, _⟩ := h
    rfl
  · obtain ⟨o, p, q, a, b, n, m, rfl, hp, hq, hn, hm, ha1, ha2, k⟩ := h
    have ix : ∀ {X : Cx} {e : Expr} {i : Int} {j : Nat} {p1 p2 : Pos} {t : TE}, PE X e t → PE X (.Subscript e (.Constant (.int i) j p1) p2) (tOp (rIxT X.K) t (tC (.int i))) := fun h => pe_ix ix_tup h pe_int (fun _ _ => rfl)
    refine ⟨_, pss_cons (ps_asg (pv 1) (pg_tup rfl (pgs_cons (pg_name (i := 3) sc_pair_value.nd rfl (.inl rfl)) (pgs_cons (pg_name (i := 4) sc_pair_value.nd rfl (.inl rfl)) pgs_nil))))
      (pss_cons (ps_if (pt_cmpR op_eq (pv 0) pe_str (nomark _)) (pss_one (ps_ret (pe_tup (pa_cons (pe_op op_and (pv 3) (ix (pv 2))) (pa_cons (pv 4) pa_nil))))) pss_nil)
      (pss_cons (ps_if (pt_cmpR op_eq (pv 0) pe_str (nomark _)) (pss_one (ps_ret (pe_tup (pa_cons (pe_op op_or (pv 3) (ix (pv 2))) (pa_cons (pv 4) pa_nil))))) pss_nil)
      (pss_cons (ps_if (pt_cmpR op_eq (pv 0) pe_str (nomark _)) (pss_one (ps_ret (pe_tup (pa_cons (pe_op op_xor (pv 3) (ix (pv 2))) (pa_cons (pv 4) pa_nil))))) pss_nil)
      (pss_cons (ps_if (pt_cmpR op_eq (pv 0) pe_str (nomark _)) (pss_one (ps_ret (pe_tup (pa_cons (pe_op op_mod (pe_op op_add (pv 3) (ix (pv 2))) (pe_call GP hr (by rfl) T.power_of.gl T.power_of.fn.kp T.power_of.bd .nil pass0 (pa_cons (pv 4) pa_nil))) (pa_cons (pv 4) pa_nil))))) pss_nil)
      (pss_cons (ps_if (pt_cmpR op_eq (pv 0) pe_str (nomark _)) (pss_one (ps_ret (pe_tup (pa_cons (pe_callTy call_int1 (by rfl) T.z_int (by decide +kernel) (pa_cons (pe_cmpR op_lt (pv 3) (ix (pv 2)) (nomark _)) pa_nil)) (pa_cons pe_int pa_nil))))) pss_nil)
      (pss_cons (ps_if (pt_cmpR op_eq (pv 0) pe_str (nomark _)) (pss_one (ps_ret (pe_tup (pa_cons (pe_callTy call_int1 (by rfl) T.z_int (by decide +kernel) (pa_cons (pe_cmpR op_eq (pv 3) (ix (pv 2)) (nomark _)) pa_nil)) (pa_cons pe_int pa_nil))))) pss_nil)
      (pss_one (ps_ret (pe_tup (pa_cons (pe_op op_add (pe_op op_mul (pv 3) (pe_call GP hr (by rfl) T.power_of.gl T.power_of.fn.kp T.power_of.bd .nil pass0 (pa_cons (ix (pv 2)) pa_nil))) (ix (pv 2))) (pa_cons (pe_op op_add (pv 4) (ix (pv 2))) pa_nil))))))))))), ?_⟩
    have i0 : atI [V.int b, V.int m] (0 : Int) = some (.int b) := atI_nat (j := 0) rfl
    have i1 : atI [V.int b, V.int m] (1 : Int) = some (.int m) := atI_nat (j := 1) rfl
    refine ⟨_, rfl, p, _, rfl, SqT.of hp, rfl, _, _, rfl, _, _, rfl, rfl, ?_⟩
    have z2 : (2 : Nat) ≤ sizeLine := by decide
    cases o with
    | and =>
      refine if_eq rfl ?_
      exact ⟨_, rfl, _, rfl, q, _, _, _, rfl, rfl, SqT.of hq, i0, _, _, rfl, rfl, _, rfl, z2, fun r hr => k r _ hr rfl⟩
    | or =>
      refine if_ne rfl (by decide +kernel) (if_eq rfl ?_)
      exact ⟨_, rfl, _, rfl, q, _, _, _, rfl, rfl, SqT.of hq, i0, _, _, rfl, rfl, _, rfl, z2, fun r hr => k r _ hr rfl⟩
    | xor =>
      refine if_ne rfl (by decide +kernel) (if_ne rfl (by decide +kernel) (if_eq rfl ?_))
      exact ⟨_, rfl, _, rfl, q, _, _, _, rfl, rfl, SqT.of hq, i0, _, _, rfl, rfl, _, rfl, z2, fun r hr => k r _ hr rfl⟩
    | plus =>
      refine if_ne rfl (by decide +kernel) (if_ne rfl (by decide +kernel) (if_ne rfl (by decide +kernel) (if_eq rfl ?_)))
      exact ⟨_, rfl, _, rfl, q, _, _, _, rfl, rfl, SqT.of hq, i0, _, _, rfl, rfl, _, rfl, n, rfl, hn, _, _, rfl, rfl, p2_pos n, _, rfl, z2, fun r hr => k r _ hr rfl⟩
    | less =>
      refine if_ne rfl (by decide +kernel) (if_ne rfl (by decide +kernel) (if_ne rfl (by decide +kernel) (if_ne rfl (by decide +kernel) (if_eq rfl ?_))))
      refine ⟨_, rfl, _, rfl, q, _, _, _, rfl, rfl, SqT.of hq, i0, _, _, rfl, rfl, .inr ⟨_, rfl, z2, fun r hr => k r _ hr ?_⟩⟩
      show upd H r (.tup [.int (if decide (a < b) = true then 1 else 0), .int 1]) = upd H r (.tup [.int (if a < b then 1 else 0), .int 1])
      simp only [decide_eq_true_eq]
    | same =>
      refine if_ne rfl (by decide +kernel) (if_ne rfl (by decide +kernel) (if_ne rfl (by decide +kernel) (if_ne rfl (by decide +kernel) (if_ne rfl (by decide +kernel) (if_eq rfl ?_)))))
      refine ⟨_, rfl, _, rfl, q, _, _, _, rfl, rfl, SqT.of hq, i0, rfl, .inr ⟨_, rfl, z2, fun r hr => k r _ hr ?_⟩⟩
      show upd H r (.tup [.int (if decide (V.int a = V.int b) = true then 1 else 0), .int 1]) = upd H r (.tup [.int (if a = b then 1 else 0), .int 1])
      simp only [decide_eq_true_eq, V.int.injEq]
    | join =>
      refine if_ne rfl (by decide +kernel) (if_ne rfl (by decide +kernel) (if_ne rfl (by decide +kernel) (if_ne rfl (by decide +kernel) (if_ne rfl (by decide +kernel) (if_ne rfl (by decide +kernel) ?_)))))
      refine ⟨_, rfl, _, rfl, q, _, _, _, rfl, rfl, SqT.of hq, i1, m, rfl, hm, _, _, rfl, rfl, .inl ⟨ha1, ha2⟩, _, rfl, q, _, _, _, rfl, rfl, SqT.of hq, i0, _, _, rfl, rfl, _, rfl, _, rfl, q, _, _, _, rfl, rfl, SqT.of hq, i1, _, _, rfl, rfl, z2, fun r hr => k r _ hr ?_⟩
      rfl
end
end K11
set_option maxHeartbeats 4000000
/-! expressions: the data, their widths; expr_wide, pair_wide, pick_wide, part_wide -/
namespace K11
open PySem PySem.Spec PyProof.Rows L2 He
/-! ### data -/
inductive Ex where
  | nm (x : Str)
  | val (v : Int) (w : Nat)
  | not (a : Ex)
  | bin (o : Op2) (a b : Ex)
  | pick (a b c : Ex)
  | part (a : Ex) (lo n : Nat)
def Ex.dep : Ex → Nat
  | .nm _ => 0
  | .val _ _ => 0
  | .not a => a.dep + 1
  | .bin _ a b => max a.dep b.dep + 1
  | .pick a b c => max a.dep (max b.dep c.dep) + 1
  | .part a _ _ => a.dep + 1
/-- the nested tuples of an expression stand at v -/
def ExAt (H : Hp) : Ex → V → Prop
  | .nm x, v => ∃ p, v = .ref p ∧ H p = some (.tup [.str "name", .str x])
  | .val a n, v => ∃ p, v = .ref p ∧ H p = some (.tup [.str "value", .int a, .int n])
  | .not a, v => ∃ p u, v = .ref p ∧ H p = some (.tup [.str "not", u]) ∧ ExAt H a u
  | .bin o a b, v => ∃ p u1 u2, v = .ref p ∧ H p = some (.tup [.str o.s, u1, u2]) ∧ ExAt H a u1 ∧ ExAt H b u2
  | .pick a b c, v => ∃ p u1 u2 u3, v = .ref p ∧ H p = some (.tup [.str "pick", u1, u2, u3]) ∧ ExAt H a u1 ∧ ExAt H b u2 ∧ ExAt H c u3
  | .part a lo n, v => ∃ p u, v = .ref p ∧ H p = some (.tup [.str "part", u, .int lo, .int n]) ∧ ExAt H a u
/-- tuples stay -/
def Tups (H H' : Hp) : Prop := ∀ b xs, H b = some (.tup xs) → H' b = some (.tup xs)
theorem same_tups {H H' : Hp} (s : Same H H') : Tups H H' := fun b xs e => s b _ e
theorem Tups.refl (H : Hp) : Tups H H := fun _ _ e => e
theorem Tups.trans {H H1 H2 : Hp} (s : Tups H H1) (t : Tups H1 H2) : Tups H H2 := fun b xs e => t b xs (s b xs e)
theorem ExAt.tups {H H' : Hp} (s : Tups H H') : ∀ {e : Ex} {v : V}, ExAt H e v → ExAt H' e v
  | .nm x, v, ⟨p, e1, e2⟩ => ⟨p, e1, s _ _ e2⟩
  | .val a n, v, ⟨p, e1, e2⟩ => ⟨p, e1, s _ _ e2⟩
  | .not a, v, ⟨p, u, e1, e2, h1⟩ => ⟨p, u, e1, s _ _ e2, h1.tups s⟩
  | .bin o a b, v, ⟨p, u1, u2, e1, e2, h1, h2⟩ => ⟨p, u1, u2, e1, s _ _ e2, h1.tups s, h2.tups s⟩
  | .pick a b c, v, ⟨p, u1, u2, u3, e1, e2, h1, h2, h3⟩ => ⟨p, u1, u2, u3, e1, s _ _ e2, h1.tups s, h2.tups s, h3.tups s⟩
  | .part a lo n, v, ⟨p, u, e1, e2, h1⟩ => ⟨p, u, e1, s _ _ e2, h1.tups s⟩
/-- widths -/
inductive Wd (kvs : List (Key × V)) : Ex → Nat → Prop where
  | nm {x : Str} {n : Nat} (h : valV kvs (.inr x) = some (.int n)) (h16 : 1 ≤ n ∧ n ≤ 16) : Wd kvs (.nm x) n
  | val {v : Int} {n : Nat} (h1 : 1 ≤ n) (h2 : n ≤ 16) (h3 : 0 ≤ v) (h4 : v < 2 ^ n) : Wd kvs (.val v n) n
  | not {a : Ex} {n : Nat} (h : Wd kvs a n) : Wd kvs (.not a) n
  | bin {o : Op2} {a b : Ex} {n m : Nat} (h1 : Wd kvs a n) (h2 : Wd kvs b m) (hj : o = .join → n + m ≤ 16) (hn : o ≠ .join → n = m) : Wd kvs (.bin o a b) (o.wd n m)
  | pick {a b c : Ex} {n : Nat} (h1 : Wd kvs a 1) (h2 : Wd kvs b n) (h3 : Wd kvs c n) : Wd kvs (.pick a b c) n
  | part {a : Ex} {lo n m : Nat} (h : Wd kvs a m) (h1 : 1 ≤ n) (h2 : lo + n ≤ m) : Wd kvs (.part a lo n) n
/-- a scope and its dict of widths -/
def ScW (K : PySem.W.Frag) (H : Hp) (sc dw : Addr) (kvs : List (Key × V)) : Prop := ∃ dx fs, H sc = some (.ins (ga K "Scope") dx fs) ∧ fs.lookup ("widths" : Str) = some (.ref dw) ∧ H dw = some (.dK kvs)
theorem ScW.same {K : PySem.W.Frag} {H H' : Hp} {sc dw : Addr} {kvs : List (Key × V)} (s : Same H H') (h : ScW K H sc dw kvs) : ScW K H' sc dw kvs := by
  obtain ⟨dx, fs, h1, h2, h3⟩ := h
  exact ⟨dx, fs, s _ _ h1, h2, s _ _ h3⟩
/-! ### promises -/
def spWide (K : PySem.W.Frag) (d : Nat) : Sp := fun vs H Q _ => ∃ (sc dw : Addr) (kvs : List (Key × V)) (ve : V) (e : Ex) (n : Nat), vs = [.ref sc, ve] ∧ ScW K H sc dw kvs ∧ ExAt H e ve ∧ Wd kvs e n ∧ e.dep < d ∧ ∀ H', Same H H' → Q (.int n) H'
def spWideP (K : PySem.W.Frag) (d : Nat) : Sp := fun vs H Q _ => ∃ (sc dw : Addr) (kvs : List (Key × V)) (ve : V) (a : Ex) (lo m n : Nat), vs = [.ref sc, ve] ∧ ScW K H sc dw kvs ∧ ExAt H (.part a lo m) ve ∧ Wd kvs (.part a lo m) n ∧ a.dep < d ∧ ∀ H', Same H H' → Q (.int n) H'
def spWideK (K : PySem.W.Frag) (d : Nat) : Sp := fun vs H Q _ => ∃ (sc dw : Addr) (kvs : List (Key × V)) (ve : V) (a b c : Ex) (n : Nat), vs = [.ref sc, ve] ∧ ScW K H sc dw kvs ∧ ExAt H (.pick a b c) ve ∧ Wd kvs (.pick a b c) n ∧ a.dep < d ∧ b.dep < d ∧ c.dep < d ∧ ∀ H', Same H H' → Q (.int n) H'
def spWideB (K : PySem.W.Frag) (d : Nat) : Sp := fun vs H Q _ => ∃ (sc dw : Addr) (kvs : List (Key × V)) (ve : V) (o : Op2) (a b : Ex) (n : Nat), vs = [.ref sc, ve] ∧ ScW K H sc dw kvs ∧ ExAt H (.bin o a b) ve ∧ Wd kvs (.bin o a b) n ∧ a.dep < d ∧ b.dep < d ∧ ∀ H', Same H H' → Q (.int n) H'
theorem fn_false {P : Program} {w : World} {K : PySem.W.Frag} {mg : Str → Option Value} {base : Heap} {CX : CXT} {k : Nat} {f : Addr} {fd : FuncData} {ps : List Str} : FnOk P w K mg base CX k f fd ps (fun _ _ _ _ => False) :=
  ⟨fun _ _ _ _ h => h.elim, fun _ _ _ _ _ _ _ _ _ _ _ _ _ h => h.elim⟩
section
variable {P : Program} {w : World} {K : PySem.W.Frag} {mg : Str → Option Value} {base : Heap}
theorem ixT {X : Cx} {e : Expr} {i : Int} {j : Nat} {p1 p2 : Pos} {t : TE} (h : PE X e t) : PE X (.Subscript e (.Constant (.int i) j p1) p2) (tOp (rIxT X.K) t (tC (.int i))) := pe_ix ix_tup h pe_int (fun _ _ => rfl)
/-! ### part_wide -/
theorem ok_part_wide (T : Tx K mg) {d k : Nat} (GE : FnOk P w K mg base CX0 k (ga K "expr_wide") (fda K (ga K "expr_wide")) ["scope", "expr"] (spWide K d)) :
    FnOk P w K mg base CX0 (k + 1) (ga K "part_wide") (fda K (ga K "part_wide")) ["scope", "expr"] (spWideP K d) := by
  refine T.part_wide.fn.ok sc_part_wide (fun vs H Q E h => ?_) (fun cdv A outer s H vs Q E hr h => ?_)
  · obtain ⟨_, _, _, _, _, _, _, _, rfl, _⟩ := h
    rfl
  · obtain ⟨sc, dw, kvs, ve, a, lo, m, n, rfl, hS, ⟨p, u, rfl, hp, hu⟩, hw, hd, q⟩ := h
    cases hw with
    | @part _ _ _ m' hw h1 h2 =>
    refine ⟨_, pss_cons (ps_set (i := 2) sc_part_wide.nd rfl (.inl rfl) (pe_call GE hr (by rfl) T.expr_wide.gl T.expr_wide.fn.kp T.expr_wide.bd .nil pass0 (pa_cons (pv 0) (pa_cons (ixT (pv 1)) pa_nil))))
      (pss_cons (ps_if (PW.pt (pw_or (pt_cmpR op_isN (pv 2) pe_non (nomark _)) (pw_or (pt_cmpR op_lt (ixT (pv 1)) pe_int (nomark _)) (pw_or (pt_cmpR op_lt (ixT (pv 1)) pe_int (nomark _)) (pw_or1 (pt_cmpR op_gt (pe_op op_add (ixT (pv 1)) (ixT (pv 1))) (pv 2) (nomark _))))))) (pss_one (ps_ret pe_non)) pss_nil)
      (pss_one (ps_ret (ixT (pv 1))))), ?_⟩
    have i1 : atI [V.str "part", u, V.int lo, V.int m] (1 : Int) = some u := atI_nat (j := 1) rfl
    have i2 : atI [V.str "part", u, V.int lo, V.int m] (2 : Int) = some (.int lo) := atI_nat (j := 2) rfl
    have i3 : atI [V.str "part", u, V.int lo, V.int m] (3 : Int) = some (.int m) := atI_nat (j := 3) rfl
    refine ⟨_, rfl, _, rfl, p, _, _, _, rfl, rfl, SqT.of hp, i1, sc, dw, kvs, u, a, m', rfl, hS, hu, hw, hd, fun H1 s1 => ?_⟩
    have hp1 := SqT.of (K := K) (s1 _ _ hp)
    refine ⟨_, rfl, rfl, _, rfl, ?_⟩
    refine iteF ⟨_, rfl, p, _, _, _, rfl, rfl, hp1, i3, _, _, rfl, rfl, _, rfl, ?_⟩
    rw [decide_eq_false (show ¬ (m : Int) < 1 by omega)]
    refine iteF ⟨_, rfl, p, _, _, _, rfl, rfl, hp1, i2, _, _, rfl, rfl, _, rfl, ?_⟩
    rw [decide_eq_false (show ¬ (lo : Int) < 0 by omega)]
    refine iteF ⟨_, rfl, p, _, _, _, rfl, rfl, hp1, i2, _, rfl, p, _, _, _, rfl, rfl, hp1, i3, _, _, rfl, rfl, _, rfl, _, _, rfl, rfl, _, rfl, ?_⟩
    rw [decide_eq_false (show ¬ (m' : Int) < (lo : Int) + m by omega)]
    refine iteF ⟨_, rfl, p, _, _, _, rfl, rfl, hp1, i3, q _ s1⟩
/-! ### pick_wide -/
theorem ok_pick_wide (T : Tx K mg) {d k : Nat} (GE : FnOk P w K mg base CX0 k (ga K "expr_wide") (fda K (ga K "expr_wide")) ["scope", "expr"] (spWide K d)) :
    FnOk P w K mg base CX0 (k + 1) (ga K "pick_wide") (fda K (ga K "pick_wide")) ["scope", "expr"] (spWideK K d) := by
  refine T.pick_wide.fn.ok sc_pick_wide (fun vs H Q E h => ?_) (fun cdv A outer s H vs Q E hr h => ?_)
  · obtain ⟨_, _, _, _, _, _, _, _, rfl, _⟩ := h
    rfl
  · obtain ⟨sc, dw, kvs, ve, a, b, c, n, rfl, hS, ⟨p, u1, u2, u3, rfl, hp, hu1, hu2, hu3⟩, hw, hd1, hd2, hd3, q⟩ := h
    cases hw with
    | pick hw1 hw2 hw3 =>
    refine ⟨_, pss_cons (ps_asg (pe_lc (own := [("part", 5)]) (g := gName 5) (tt := tYes) rfl sc_pick_wide.nd (pi_tup (pe_slice sl_tup (pv 1) (po_some pe_int) po_none))
          (blkOk_by (N := ["scope", "expr", "test", "one", "other", "part"]) (sc := defScope s_pick_wide) (by decide +kernel)) (fun _ _ _ _ _ => pg_name (i := 5) sc_pick_wide.nd rfl (Or.inl rfl)) (fun _ _ _ _ _ => pts_nil)
          (fun _ _ _ _ _ => pe_call GE hr (by rfl) T.expr_wide.gl T.expr_wide.fn.kp T.expr_wide.bd .nil pass0 (pa_cons (pv 0) (pa_cons (pv 5) pa_nil))))
        (pg_unl rfl (pgs_cons (pg_name (i := 2) sc_pick_wide.nd rfl (.inl rfl)) (pgs_cons (pg_name (i := 3) sc_pick_wide.nd rfl (.inl rfl)) (pgs_cons (pg_name (i := 4) sc_pick_wide.nd rfl (.inl rfl)) pgs_nil)))))
      (pss_cons (ps_if (PW.pt (pw_or (pt_cmpR op_ne (pv 2) pe_int (nomark _)) (pw_or (pt_cmpR op_isN (pv 3) pe_non (nomark _)) (pw_or1 (pt_cmpR op_ne (pv 3) (pv 4) (nomark _)))))) (pss_one (ps_ret pe_non)) pss_nil)
      (pss_one (ps_ret (pv 3)))), ?_⟩
    refine ⟨_, rfl, 1, rfl, p, _, rfl, SqT.of hp, ?_, fun p1 hp1 => ?_⟩
    · show ¬ (min 1 4 = 0 ∧ _)
      intro z
      exact absurd z.1 (by decide)
    have s1 : Same H (upd H p1 (.tup [u1, u2, u3])) := same_upd hp1
    refine ⟨p1, rfl, ⟨[u1, u2, u3], SqT.of upd_same⟩, fun D hD => ?_⟩
    refine lc_it (walk_tup (xs := [u1, u2, u3])) (fun i H' => Same (upd H p1 (.tup [u1, u2, u3])) H' ∧ H' D = some (.lst (([V.int (1 : Nat), V.int n, V.int n]).take i))) ⟨same_upd hD, upd_same⟩ (fun i H' _ h => SqT.of (h.1 _ _ upd_same)) ?_ ?_
    · rintro i x H3 H4 hi ⟨s3, hD3⟩ ⟨rfl, hx⟩
      have sA := s1.trans s3
      obtain ⟨e', n', hE, hW, hd', hn'⟩ : ∃ (e' : Ex) (n' : Nat), ExAt H e' x ∧ Wd kvs e' n' ∧ e'.dep < d ∧ ([V.int (1 : Nat), V.int n, V.int n] : List V)[i]? = some (.int n') := by
        match i, hx with
        | 0, hx => exact ⟨a, 1, by cases hx; exact hu1, hw1, hd1, rfl⟩
        | 1, hx => exact ⟨b, n, by cases hx; exact hu2, hw2, hd2, rfl⟩
        | 2, hx => exact ⟨c, n, by cases hx; exact hu3, hw3, hd3, rfl⟩
      refine ⟨rfl, _, rfl, _, rfl, sc, dw, kvs, x, e', n', rfl, hS.same sA, hE.tups (same_tups sA), hW, hd', fun H5 s5 => ?_⟩
      refine ⟨_, s5 _ _ hD3, ?_, ?_, ?_⟩
      · rw [List.length_take]
        exact Nat.lt_of_le_of_lt (Nat.min_le_right _ _) (show 3 < sizeLine by decide)
      · intro b' o' eb
        have nb : b' ≠ D := ne_of_none eb hD
        rw [upd_ne nb]
        exact s5 _ _ (s3 _ _ eb)
      · rw [upd_same, List.take_add_one, hn']
        rfl
    · rintro H3 ⟨s3, hD3⟩
      have sA := s1.trans s3
      refine ⟨D, _, rfl, SqL.of hD3, rfl, _, _, rfl, _, _, rfl, _, _, rfl, rfl, ?_⟩
      refine ⟨_, rfl, rfl, _, rfl, ?_⟩
      refine iteNS rfl ⟨_, rfl, rfl, _, rfl, iteF ⟨_, rfl, _, rfl, rfl, _, rfl, iteNS rfl ⟨_, rfl, q _ sA⟩⟩⟩
/-! ### pair_wide -/
theorem Op2.ne_join {o : Op2} (h : o ≠ .join) : (o.s ≠ "join") := by
  cases o <;> first | exact absurd rfl h | decide +kernel
theorem inV_ls (o : Op2) : inV (V.str o.s) [V.str "less", V.str "same"] = (match o with | .less => true | .same => true | _ => false) := by
  cases o <;> decide +kernel
theorem ok_pair_wide (T : Tx K mg) {d k : Nat} (GE : FnOk P w K mg base CX0 k (ga K "expr_wide") (fda K (ga K "expr_wide")) ["scope", "expr"] (spWide K d)) :
    FnOk P w K mg base CX0 (k + 1) (ga K "pair_wide") (fda K (ga K "pair_wide")) ["scope", "expr"] (spWideB K d) := by
  obtain ⟨tW, hW⟩ := T.i_WIDEST
  refine T.pair_wide.fn.ok sc_pair_wide (fun vs H Q E h => ?_) (fun cdv A outer s H vs Q E hr h => ?_)
  · obtain ⟨_, _, _, _, _, _, _, _, rfl, _⟩ := h
    rfl
  · obtain ⟨sc, dw, kvs, ve, o, a, b, n, rfl, hS, ⟨p, u1, u2, rfl, hp, hu1, hu2⟩, hw, hd1, hd2, q⟩ := h
    cases hw with
    | @bin _ _ _ n m hw1 hw2 hj hn =>
    refine ⟨_, pss_cons (ps_set (i := 2) sc_pair_wide.nd rfl (.inl rfl) (pe_call GE hr (by rfl) T.expr_wide.gl T.expr_wide.fn.kp T.expr_wide.bd .nil pass0 (pa_cons (pv 0) (pa_cons (ixT (pv 1)) pa_nil))))
      (pss_cons (ps_set (i := 3) sc_pair_wide.nd rfl (.inl rfl) (pe_call GE hr (by rfl) T.expr_wide.gl T.expr_wide.fn.kp T.expr_wide.bd .nil pass0 (pa_cons (pv 0) (pa_cons (ixT (pv 1)) pa_nil))))
      (pss_cons (ps_if (PW.pt (pw_or (pt_cmpR op_isN (pv 2) pe_non (nomark _)) (pw_or1 (pt_cmpR op_isN (pv 3) pe_non (nomark _))))) (pss_one (ps_ret pe_non)) pss_nil)
      (pss_cons (ps_if (pt_cmpR op_eq (ixT (pv 1)) pe_str (nomark _)) (pss_cons (ps_if (pt_cmpR op_gt (pe_op op_add (pv 2) (pv 3)) (pe_glob (v := .int 16) rfl hW ⟨tW, rfl⟩) (nomark _)) (pss_one (ps_ret pe_non)) pss_nil) (pss_one (ps_ret (pe_op op_add (pv 2) (pv 3))))) pss_nil)
      (pss_cons (ps_if (pt_cmpR op_ne (pv 2) (pv 3) (nomark _)) (pss_one (ps_ret pe_non)) pss_nil)
      (pss_cons (ps_if (pt_cmpR op_in_seq (ixT (pv 1)) (pe_tup (pa_cons pe_str (pa_cons pe_str pa_nil))) (by rfl)) (pss_one (ps_ret pe_int)) pss_nil)
      (pss_one (ps_ret (pv 2)))))))), ?_⟩
    have i0 : atI [V.str o.s, u1, u2] (0 : Int) = some (.str o.s) := atI_nat (j := 0) rfl
    have i1 : atI [V.str o.s, u1, u2] (1 : Int) = some u1 := atI_nat (j := 1) rfl
    have i2 : atI [V.str o.s, u1, u2] (2 : Int) = some u2 := atI_nat (j := 2) rfl
    refine ⟨_, rfl, _, rfl, p, _, _, _, rfl, rfl, SqT.of hp, i1, sc, dw, kvs, u1, a, n, rfl, hS, hu1, hw1, hd1, fun H1 s1 => ?_⟩
    refine ⟨_, rfl, _, rfl, p, _, _, _, rfl, rfl, SqT.of (s1 _ _ hp), i2, sc, dw, kvs, u2, b, m, rfl, hS.same s1, hu2.tups (same_tups s1), hw2, hd2, fun H2 s2 => ?_⟩
    have sA := s1.trans s2
    have hp2 := SqT.of (K := K) (sA _ _ hp)
    refine ⟨_, rfl, rfl, _, rfl, iteF ⟨_, rfl, rfl, _, rfl, iteF ⟨_, rfl, p, _, _, _, rfl, rfl, hp2, i0, rfl, _, rfl, ?_⟩⟩⟩
    by_cases ej : o = .join
    · subst ej
      rw [show decide (V.str Op2.join.s = V.str ("join" : Str)) = true from decide_eq_true rfl]
      refine iteT ⟨_, rfl, _, rfl, _, _, rfl, rfl, _, _, rfl, rfl, _, rfl, ?_⟩
      rw [decide_eq_false (show ¬ (16 : Int) < (n : Int) + (m : Int) by have := hj rfl; omega)]
      exact iteF ⟨_, rfl, _, rfl, _, _, rfl, rfl, q _ sA⟩
    · have e1 : decide (V.str o.s = V.str "join") = false := decide_eq_false fun z => Op2.ne_join ej (V.str.inj z)
      rw [e1]
      have enm : n = m := hn ej
      subst enm
      refine iteF ⟨_, rfl, _, rfl, rfl, _, rfl, iteNS rfl ⟨_, rfl, p, _, _, _, rfl, rfl, hp2, i0, by decide, fun t ht => ?_⟩⟩
      refine ⟨t, _, rfl, .inr (SqT.of upd_same), rfl, rfl, _, rfl, ?_⟩
      have st : Same H (upd H2 t (.tup [.str "less", .str "same"])) := sA.trans (same_upd ht)
      rw [show (if false = true then !inV (V.str o.s) [V.str "less", V.str "same"] else inV (V.str o.s) [V.str "less", V.str "same"]) = inV (V.str o.s) [V.str "less", V.str "same"] from rfl, inV_ls o]
      cases o with
      | join => exact absurd rfl ej
      | less => exact iteT (q _ st)
      | same => exact iteT (q _ st)
      | and => exact iteF ⟨_, rfl, q _ st⟩
      | or => exact iteF ⟨_, rfl, q _ st⟩
      | xor => exact iteF ⟨_, rfl, q _ st⟩
      | plus => exact iteF ⟨_, rfl, q _ st⟩
/-! ### expr_wide -/
theorem op2_ne (o : Op2) : o.s ≠ "name" ∧ o.s ≠ "of" ∧ o.s ≠ "value" ∧ o.s ≠ "not" ∧ o.s ≠ "pick" ∧ o.s ≠ "part" := by
  cases o <;> decide +kernel
theorem ok_expr_wide_step (T : Tx K mg) {d k : Nat} (hk : 3 ≤ k) (GE : FnOk P w K mg base CX0 k (ga K "expr_wide") (fda K (ga K "expr_wide")) ["scope", "expr"] (spWide K d)) :
    FnOk P w K mg base CX0 (k + 2) (ga K "expr_wide") (fda K (ga K "expr_wide")) ["scope", "expr"] (spWide K (d + 1)) := by
  have GR := ok_part_wide T GE
  have GK := ok_pick_wide T GE
  have GB := ok_pair_wide T GE
  have GE1 := GE.mono (Nat.le_succ k)
  have GF : FnOk P w K mg base CX0 (k + 1) _ _ _ _ := (ok_value_fits T).mono (by omega)
  refine T.expr_wide.fn.ok sc_expr_wide (fun vs H Q E h => ?_) (fun cdv A outer s H vs Q E hr h => ?_)
  · obtain ⟨_, _, _, _, _, _, rfl, _⟩ := h
    rfl
  · obtain ⟨sc, dw, kvs, ve, e, n, rfl, hS, hE, hw, hd, q⟩ := h
    have hu := hu_of hr
    refine ⟨_, pss_cons (ps_set (i := 2) sc_expr_wide.nd rfl (.inl rfl) (ixT (pv 1)))
      (pss_cons (ps_if (pt_cmpR op_eq (pv 2) pe_str (nomark _)) (pss_one (ps_ret (pe_dget1 hu (pe_fld (pv 0) rfl) (ixT (pv 1)) ⟨rfl, rfl, rfl, rfl⟩))) pss_nil)
      (pss_cons (ps_if (pt_cmpR op_eq (pv 2) pe_str (nomark _)) pss_never pss_nil)
      (pss_cons (ps_if (pt_cmpR op_eq (pv 2) pe_str (nomark _)) (pss_cons (ps_if (pt_not (pt_val (pe_call GF hr (by rfl) T.value_fits.gl T.value_fits.fn.kp T.value_fits.bd .nil pass0 (pa_cons (ixT (pv 1)) (pa_cons (ixT (pv 1)) pa_nil))))) (pss_one (ps_ret pe_non)) pss_nil) (pss_one (ps_ret (ixT (pv 1))))) pss_nil)
      (pss_cons (ps_if (pt_cmpR op_eq (pv 2) pe_str (nomark _)) (pss_one (ps_ret (pe_call GE1 hr (by rfl) T.expr_wide.gl T.expr_wide.fn.kp T.expr_wide.bd .nil pass0 (pa_cons (pv 0) (pa_cons (ixT (pv 1)) pa_nil))))) pss_nil)
      (pss_cons (ps_if (pt_cmpR op_eq (pv 2) pe_str (nomark _)) (pss_one (ps_ret (pe_call GK hr (by rfl) T.pick_wide.gl T.pick_wide.fn.kp T.pick_wide.bd .nil pass0 (pa_cons (pv 0) (pa_cons (pv 1) pa_nil))))) pss_nil)
      (pss_cons (ps_if (pt_cmpR op_eq (pv 2) pe_str (nomark _)) (pss_one (ps_ret (pe_call GR hr (by rfl) T.part_wide.gl T.part_wide.fn.kp T.part_wide.bd .nil pass0 (pa_cons (pv 0) (pa_cons (pv 1) pa_nil))))) pss_nil)
      (pss_one (ps_ret (pe_call GB hr (by rfl) T.pair_wide.gl T.pair_wide.fn.kp T.pair_wide.bd .nil pass0 (pa_cons (pv 0) (pa_cons (pv 1) pa_nil))))))))))), ?_⟩
    cases e with
    | nm x =>
      obtain ⟨p, rfl, hp⟩ := hE
      refine ⟨_, rfl, p, _, _, _, rfl, rfl, SqT.of hp, atI_nat (j := 0) rfl, if_eq rfl ?_⟩
      obtain ⟨dx, fs, h1, h2, h3⟩ := hS
      cases hw with
      | nm hv _ =>
      refine ⟨_, rfl, sc, _, dx, fs, _, rfl, h1, T.c_Scope.cl, T.n_Scope_widths, h2, dw, rfl, .inl ⟨_, .inl h3⟩, _, rfl, p, _, _, _, rfl, rfl, SqT.of hp, atI_nat (j := 1) rfl, _, DGet.k (k := Sum.inr x) h3, ?_⟩
      rw [hv]
      exact q _ (Same.refl _)
    | val a m =>
      obtain ⟨p, rfl, hp⟩ := hE
      cases hw with
      | val w1 w2 w3 w4 =>
      refine ⟨_, rfl, p, _, _, _, rfl, rfl, SqT.of hp, atI_nat (j := 0) rfl, if_ne rfl (by decide +kernel) (if_ne rfl (by decide +kernel) (if_eq rfl ?_))⟩
      exact ⟨_, rfl, p, _, _, _, rfl, rfl, SqT.of hp, atI_nat (j := 1) rfl, _, rfl, p, _, _, _, rfl, rfl, SqT.of hp, atI_nat (j := 2) rfl, a, n, rfl, w1, w2, w3, w4, _, rfl, iteF ⟨_, rfl, p, _, _, _, rfl, rfl, SqT.of hp, atI_nat (j := 2) rfl, q _ (Same.refl _)⟩⟩
    | not a =>
      obtain ⟨p, u, rfl, hp, hu⟩ := hE
      cases hw with
      | not w1 =>
      refine ⟨_, rfl, p, _, _, _, rfl, rfl, SqT.of hp, atI_nat (j := 0) rfl, if_ne rfl (by decide +kernel) (if_ne rfl (by decide +kernel) (if_ne rfl (by decide +kernel) (if_eq rfl ?_)))⟩
      exact ⟨_, rfl, _, rfl, p, _, _, _, rfl, rfl, SqT.of hp, atI_nat (j := 1) rfl, sc, dw, kvs, u, a, n, rfl, hS, hu, w1, by unfold Ex.dep at hd; omega, q⟩
    | pick a b c =>
      have hE' := hE
      obtain ⟨p, u1, u2, u3, rfl, hp, hu⟩ := hE
      unfold Ex.dep at hd
      refine ⟨_, rfl, p, _, _, _, rfl, rfl, SqT.of hp, atI_nat (j := 0) rfl, if_ne rfl (by decide +kernel) (if_ne rfl (by decide +kernel) (if_ne rfl (by decide +kernel) (if_ne rfl (by decide +kernel) (if_eq rfl ?_))))⟩
      exact ⟨_, rfl, _, rfl, sc, dw, kvs, _, a, b, c, n, rfl, hS, hE', hw, by omega, by omega, by omega, q⟩
    | part a lo m =>
      have hE' := hE
      obtain ⟨p, u, rfl, hp, hu⟩ := hE
      unfold Ex.dep at hd
      refine ⟨_, rfl, p, _, _, _, rfl, rfl, SqT.of hp, atI_nat (j := 0) rfl, if_ne rfl (by decide +kernel) (if_ne rfl (by decide +kernel) (if_ne rfl (by decide +kernel) (if_ne rfl (by decide +kernel) (if_ne rfl (by decide +kernel) (if_eq rfl ?_)))))⟩
      exact ⟨_, rfl, _, rfl, sc, dw, kvs, _, a, lo, m, n, rfl, hS, hE', hw, by omega, q⟩
    | bin o a b =>
      have hE' := hE
      obtain ⟨p, u1, u2, rfl, hp, hu⟩ := hE
      unfold Ex.dep at hd
      obtain ⟨o1, o2, o3, o4, o5, o6⟩ := op2_ne o
      refine ⟨_, rfl, p, _, _, _, rfl, rfl, SqT.of hp, atI_nat (j := 0) rfl, if_ne rfl o1 (if_ne rfl o2 (if_ne rfl o3 (if_ne rfl o4 (if_ne rfl o5 (if_ne rfl o6 ?_)))))⟩
      exact ⟨_, rfl, _, rfl, sc, dw, kvs, _, o, a, b, n, rfl, hS, hE', hw, by omega, by omega, q⟩
theorem ok_expr_wide (T : Tx K mg) : ∀ d : Nat, FnOk P w K mg base CX0 (3 + 2 * d) (ga K "expr_wide") (fda K (ga K "expr_wide")) ["scope", "expr"] (spWide K d)
  | 0 => fn_false.imp fun vs H Q E h => by
    obtain ⟨_, _, _, _, _, _, _, _, _, _, hd, _⟩ := h
    exact absurd hd (Nat.not_lt_zero _)
  | d + 1 => ok_expr_wide_step T (k := 3 + 2 * d) (by omega) (ok_expr_wide T d)
end
end K11
set_option maxHeartbeats 4000000
/-! expr_value -/
namespace K11
open PySem PySem.Spec PyProof.Rows L2 He
/-- values: what the names have, what an expression has with its width -/
inductive Vl (ρ : Str → Option (Int × Nat)) : Ex → Int → Nat → Prop where
  | nm {x : Str} {v : Int} {n : Nat} (h : ρ x = some (v, n)) : Vl ρ (.nm x) v n
  | val {v : Int} {n : Nat} : Vl ρ (.val v n) v n
  | not {a : Ex} {v : Int} {n : Nat} (h : Vl ρ a v n) (hn : n ≤ 16) : Vl ρ (.not a) (2 ^ n - 1 - v) n
  | bin {o : Op2} {a b : Ex} {v u : Int} {n m : Nat} (h1 : Vl ρ a v n) (h2 : Vl ρ b u m) (hn : n ≤ 16) (hm : m ≤ 16) (l1 : -(2 ^ 64) < v) (l2 : v < 2 ^ 64) : Vl ρ (.bin o a b) (o.val v n u m) (o.wd n m)
  | pick1 {a b c : Ex} {v : Int} {n m : Nat} (h1 : Vl ρ a 1 m) (h2 : Vl ρ b v n) : Vl ρ (.pick a b c) v n
  | pick0 {a b c : Ex} {v u : Int} {n m : Nat} (h1 : Vl ρ a u m) (hu : u ≠ 1) (h2 : Vl ρ c v n) : Vl ρ (.pick a b c) v n
  | part {a : Ex} {v : Int} {lo n m : Nat} (h : Vl ρ a v m) (hl : lo ≤ 16) (hn : n ≤ 16) : Vl ρ (.part a lo n) (v / 2 ^ lo % 2 ^ n) n
/-- the dict of names holds pairs of ρ -/
def NmOk (H : Hp) (kvs : List (Key × V)) (ρ : Str → Option (Int × Nat)) : Prop := ∀ x v n, ρ x = some (v, n) → ∃ t, valV kvs (.inr x) = some (.ref t) ∧ H t = some (.tup [.int v, .int n])
theorem NmOk.tups {H H' : Hp} {kvs : List (Key × V)} {ρ : Str → Option (Int × Nat)} (s : Tups H H') (h : NmOk H kvs ρ) : NmOk H' kvs ρ := fun x v n e => by
  obtain ⟨t, h1, h2⟩ := h x v n e
  exact ⟨t, h1, s _ _ h2⟩
def SgN (K : PySem.W.Frag) (H : Hp) (sg dn : Addr) (kvs : List (Key × V)) : Prop := ∃ dx fs, H sg = some (.ins (ga K "Sight") dx fs) ∧ fs.lookup ("names" : Str) = some (.ref dn) ∧ H dn = some (.dK kvs)
theorem SgN.same {K : PySem.W.Frag} {H H' : Hp} {sc dw : Addr} {kvs : List (Key × V)} (s : Same H H') (h : SgN K H sc dw kvs) : SgN K H' sc dw kvs := by
  obtain ⟨dx, fs, h1, h2, h3⟩ := h
  exact ⟨dx, fs, s _ _ h1, h2, s _ _ h3⟩
def spVal (K : PySem.W.Frag) (d : Nat) : Sp := fun vs H Q _ => ∃ (sg dn : Addr) (kvs : List (Key × V)) (ρ : Str → Option (Int × Nat)) (ve : V) (e : Ex) (v : Int) (n : Nat), vs = [.ref sg, ve] ∧ SgN K H sg dn kvs ∧ NmOk H kvs ρ ∧ ExAt H e ve ∧ Vl ρ e v n ∧ e.dep < d ∧
  ∀ H' r, Same H H' → H' r = some (.tup [.int v, .int n]) → Q (.ref r) H'
section
variable {P : Program} {w : World} {K : PySem.W.Frag} {mg : Str → Option Value} {base : Heap}
theorem ok_expr_value_step (T : Tx K mg) {d k : Nat} (hk : 2 ≤ k) (GE : FnOk P w K mg base CX0 k (ga K "expr_value") (fda K (ga K "expr_value")) ["sight", "expr"] (spVal K d)) :
    FnOk P w K mg base CX0 (k + 1) (ga K "expr_value") (fda K (ga K "expr_value")) ["sight", "expr"] (spVal K (d + 1)) := by
  have GT : FnOk P w K mg base CX0 k _ _ _ _ := (ok_bits_turned T).mono hk
  have GP : FnOk P w K mg base CX0 k _ _ _ _ := (ok_power_of T).mono (by omega)
  have GV : FnOk P w K mg base CX0 k _ _ _ _ := (ok_pair_value T).mono hk
  refine T.expr_value.fn.ok sc_expr_value (fun vs H Q E h => ?_) (fun cdv A outer s H vs Q E hr h => ?_)
  · obtain ⟨_, _, _, _, _, _, _, _, rfl, _⟩ := h
    rfl
  · obtain ⟨sg, dn, kvs, ρ, ve, e, v, n, rfl, hS, hN, hE, hv, hd, q⟩ := h
    have hu := hu_of hr
    refine ⟨_, pss_cons (ps_set (i := 2) sc_expr_value.nd rfl (.inl rfl) (ixT (pv 1)))
      (pss_cons (ps_if (pt_cmpR op_eq (pv 2) pe_str (nomark _)) (pss_one (ps_ret (pe_dget hu (pe_fld (pv 0) rfl) (ixT (pv 1)) (fun _ _ => rfl)))) pss_nil)
      (pss_cons (ps_if (pt_cmpR op_eq (pv 2) pe_str (nomark _)) pss_never pss_nil)
      (pss_cons (ps_if (pt_cmpR op_eq (pv 2) pe_str (nomark _)) (pss_one (ps_ret (pe_tup (pa_cons (ixT (pv 1)) (pa_cons (ixT (pv 1)) pa_nil))))) pss_nil)
      (pss_cons (ps_set (i := 3) sc_expr_value.nd rfl (.inl rfl) (pe_call GE hr (by rfl) T.expr_value.gl T.expr_value.fn.kp T.expr_value.bd .nil pass0 (pa_cons (pv 0) (pa_cons (ixT (pv 1)) pa_nil))))
      (pss_cons (ps_if (pt_cmpR op_eq (pv 2) pe_str (nomark _)) (pss_one (ps_ret (pe_tup (pa_cons (pe_call GT hr (by rfl) T.bits_turned.gl T.bits_turned.fn.kp T.bits_turned.bd .nil pass0 (pa_cons (ixT (pv 3)) (pa_cons (ixT (pv 3)) pa_nil))) (pa_cons (ixT (pv 3)) pa_nil))))) pss_nil)
      (pss_cons (ps_if (pt_cmpR op_eq (pv 2) pe_str (nomark _)) (pss_one (ps_ret (pe_tup (pa_cons (pe_op op_mod (pe_op op_fdiv (ixT (pv 3)) (pe_call GP hr (by rfl) T.power_of.gl T.power_of.fn.kp T.power_of.bd .nil pass0 (pa_cons (ixT (pv 1)) pa_nil))) (pe_call GP hr (by rfl) T.power_of.gl T.power_of.fn.kp T.power_of.bd .nil pass0 (pa_cons (ixT (pv 1)) pa_nil))) (pa_cons (ixT (pv 1)) pa_nil))))) pss_nil)
      (pss_cons (ps_if (pt_cmpR op_eq (pv 2) pe_str (nomark _)) (pss_cons (ps_if (pt_cmpR op_eq (ixT (pv 3)) pe_int (nomark _)) (pss_one (ps_ret (pe_call GE hr (by rfl) T.expr_value.gl T.expr_value.fn.kp T.expr_value.bd .nil pass0 (pa_cons (pv 0) (pa_cons (ixT (pv 1)) pa_nil))))) pss_nil)
          (pss_one (ps_ret (pe_call GE hr (by rfl) T.expr_value.gl T.expr_value.fn.kp T.expr_value.bd .nil pass0 (pa_cons (pv 0) (pa_cons (ixT (pv 1)) pa_nil)))))) pss_nil)
      (pss_one (ps_ret (pe_call GV hr (by rfl) T.pair_value.gl T.pair_value.fn.kp T.pair_value.bd .nil pass0 (pa_cons (pv 2) (pa_cons (pv 3) (pa_cons (pe_call GE hr (by rfl) T.expr_value.gl T.expr_value.fn.kp T.expr_value.bd .nil pass0 (pa_cons (pv 0) (pa_cons (ixT (pv 1)) pa_nil))) pa_nil))))))))))))), ?_⟩
    have z2 : (2 : Nat) ≤ sizeLine := by decide
    have j0 : ∀ a b : V, atI [a, b] (0 : Int) = some a := fun a b => atI_nat (j := 0) rfl
    have j1 : ∀ a b : V, atI [a, b] (1 : Int) = some b := fun a b => atI_nat (j := 1) rfl
    cases e with
    | nm x =>
      obtain ⟨p, rfl, hp⟩ := hE
      obtain ⟨dx, fs, h1, h2, h3⟩ := hS
      cases hv with
      | nm hv =>
      obtain ⟨t, e1, e2⟩ := hN x v n hv
      refine ⟨_, rfl, p, _, _, _, rfl, rfl, SqT.of hp, atI_nat (j := 0) rfl, if_eq rfl ?_⟩
      refine ⟨_, rfl, sg, _, dx, fs, _, rfl, h1, T.c_Sight.cl, T.n_Sight_names, h2, _, rfl, p, _, _, _, rfl, rfl, SqT.of hp, atI_nat (j := 1) rfl, dn, .ref t, rfl, ?_, q _ _ (Same.refl _) e2⟩
      have g := DGet.k (k := Sum.inr x) h3
      rw [e1] at g
      exact g
    | val a m =>
      obtain ⟨p, rfl, hp⟩ := hE
      cases hv
      refine ⟨_, rfl, p, _, _, _, rfl, rfl, SqT.of hp, atI_nat (j := 0) rfl, if_ne rfl (by decide +kernel) (if_ne rfl (by decide +kernel) (if_eq rfl ?_))⟩
      exact ⟨_, rfl, p, _, _, _, rfl, rfl, SqT.of hp, atI_nat (j := 1) rfl, _, rfl, p, _, _, _, rfl, rfl, SqT.of hp, atI_nat (j := 2) rfl, z2, fun r hr => q _ r (same_upd hr) upd_same⟩
    | not a =>
      obtain ⟨p, u, rfl, hp, hu'⟩ := hE
      unfold Ex.dep at hd
      cases hv with
      | @not _ v1 _ hv hn =>
      refine ⟨_, rfl, p, _, _, _, rfl, rfl, SqT.of hp, atI_nat (j := 0) rfl, if_ne rfl (by decide +kernel) (if_ne rfl (by decide +kernel) (if_ne rfl (by decide +kernel) ?_))⟩
      refine ⟨_, rfl, _, rfl, p, _, _, _, rfl, rfl, SqT.of hp, atI_nat (j := 1) rfl, sg, dn, kvs, ρ, u, a, v1, n, rfl, hS, hN, hu', hv, by omega, fun H1 r s1 hr1 => if_eq rfl ?_⟩
      have hr1' := SqT.of (K := K) hr1
      exact ⟨_, rfl, r, _, _, _, rfl, rfl, hr1', j0 _ _, _, rfl, r, _, _, _, rfl, rfl, hr1', j1 _ _, v1, n, rfl, hn, _, rfl, r, _, _, _, rfl, rfl, hr1', j1 _ _, z2, fun t ht => q _ t (s1.trans (same_upd ht)) upd_same⟩
    | part a lo m =>
      obtain ⟨p, u, rfl, hp, hu'⟩ := hE
      unfold Ex.dep at hd
      cases hv with
      | @part _ v1 _ _ m1 hv hl hn =>
      refine ⟨_, rfl, p, _, _, _, rfl, rfl, SqT.of hp, atI_nat (j := 0) rfl, if_ne rfl (by decide +kernel) (if_ne rfl (by decide +kernel) (if_ne rfl (by decide +kernel) ?_))⟩
      refine ⟨_, rfl, _, rfl, p, _, _, _, rfl, rfl, SqT.of hp, atI_nat (j := 1) rfl, sg, dn, kvs, ρ, u, a, v1, m1, rfl, hS, hN, hu', hv, by omega, fun H1 r s1 hr1 => if_ne rfl (by decide +kernel) (if_eq rfl ?_)⟩
      have hr1' := SqT.of (K := K) hr1
      have hp1 := SqT.of (K := K) (s1 _ _ hp)
      exact ⟨_, rfl, r, _, _, _, rfl, rfl, hr1', j0 _ _, _, rfl, p, _, _, _, rfl, rfl, hp1, atI_nat (j := 2) rfl, lo, rfl, hl, _, _, rfl, rfl, ⟨p2_pos lo, by have := p2_16 hl; omega⟩,
        _, rfl, p, _, _, _, rfl, rfl, hp1, atI_nat (j := 3) rfl, n, rfl, hn, _, _, rfl, rfl, p2_pos n, _, rfl, p, _, _, _, rfl, rfl, hp1, atI_nat (j := 3) rfl, z2, fun t ht => q _ t (s1.trans (same_upd ht)) upd_same⟩
    | pick a b c =>
      obtain ⟨p, u1, u2, u3, rfl, hp, hu1, hu2, hu3⟩ := hE
      unfold Ex.dep at hd
      obtain ⟨v1, m1, g1, g2⟩ : ∃ (v1 : Int) (m1 : Nat), Vl ρ a v1 m1 ∧ ((v1 = 1 ∧ Vl ρ b v n) ∨ (v1 ≠ 1 ∧ Vl ρ c v n)) := by
        cases hv with
        | pick1 g1 g2 => exact ⟨1, _, g1, .inl ⟨rfl, g2⟩⟩
        | pick0 g1 gu g2 => exact ⟨_, _, g1, .inr ⟨gu, g2⟩⟩
      refine ⟨_, rfl, p, _, _, _, rfl, rfl, SqT.of hp, atI_nat (j := 0) rfl, if_ne rfl (by decide +kernel) (if_ne rfl (by decide +kernel) (if_ne rfl (by decide +kernel) ?_))⟩
      refine ⟨_, rfl, _, rfl, p, _, _, _, rfl, rfl, SqT.of hp, atI_nat (j := 1) rfl, sg, dn, kvs, ρ, u1, a, v1, m1, rfl, hS, hN, hu1, g1, by omega, fun H1 r s1 hr1 => if_ne rfl (by decide +kernel) (if_ne rfl (by decide +kernel) (if_eq rfl ?_))⟩
      have hr1' := SqT.of (K := K) hr1
      have hp1 := SqT.of (K := K) (s1 _ _ hp)
      refine ⟨_, rfl, r, _, _, _, rfl, rfl, hr1', j0 _ _, rfl, _, rfl, ?_⟩
      rcases g2 with ⟨rfl, g2⟩ | ⟨gu, g2⟩
      · rw [show decide (V.int 1 = V.int 1) = true from decide_eq_true rfl]
        refine iteT ⟨_, rfl, _, rfl, p, _, _, _, rfl, rfl, hp1, atI_nat (j := 2) rfl, sg, dn, kvs, ρ, u2, b, v, n, rfl, hS.same s1, hN.tups (same_tups s1), hu2.tups (same_tups s1), g2, by omega, fun H2 r2 s2 h2 => q _ _ (s1.trans s2) h2⟩
      · rw [show decide (V.int v1 = V.int 1) = false from decide_eq_false fun z => gu (V.int.inj z)]
        refine iteF ⟨_, rfl, _, rfl, p, _, _, _, rfl, rfl, hp1, atI_nat (j := 3) rfl, sg, dn, kvs, ρ, u3, c, v, n, rfl, hS.same s1, hN.tups (same_tups s1), hu3.tups (same_tups s1), g2, by omega, fun H2 r2 s2 h2 => q _ _ (s1.trans s2) h2⟩
    | bin o a b =>
      obtain ⟨p, u1, u2, rfl, hp, hu1, hu2⟩ := hE
      unfold Ex.dep at hd
      obtain ⟨o1, o2, o3, o4, o5, o6⟩ := op2_ne o
      cases hv with
      | @bin _ _ _ v1 v2 n1 n2 g1 g2 hn hm l1 l2 =>
      refine ⟨_, rfl, p, _, _, _, rfl, rfl, SqT.of hp, atI_nat (j := 0) rfl, if_ne rfl o1 (if_ne rfl o2 (if_ne rfl o3 ?_))⟩
      refine ⟨_, rfl, _, rfl, p, _, _, _, rfl, rfl, SqT.of hp, atI_nat (j := 1) rfl, sg, dn, kvs, ρ, u1, a, v1, n1, rfl, hS, hN, hu1, g1, by omega, fun H1 r s1 hr1 => if_ne rfl o4 (if_ne rfl o6 (if_ne rfl o5 ?_))⟩
      have hp1 := SqT.of (K := K) (s1 _ _ hp)
      refine ⟨_, rfl, _, rfl, _, rfl, _, rfl, p, _, _, _, rfl, rfl, hp1, atI_nat (j := 2) rfl, sg, dn, kvs, ρ, u2, b, v2, n2, rfl, hS.same s1, hN.tups (same_tups s1), hu2.tups (same_tups s1), g2, by omega, fun H2 r2 s2 hr2 => ?_⟩
      refine ⟨o, r, r2, v1, v2, n1, n2, rfl, s2 _ _ hr1, hr2, hn, hm, l1, l2, fun t H3 ht e3 => ?_⟩
      subst e3
      exact q _ t ((s1.trans s2).trans (same_upd ht)) upd_same
theorem ok_expr_value (T : Tx K mg) : ∀ d : Nat, FnOk P w K mg base CX0 (2 + d) (ga K "expr_value") (fda K (ga K "expr_value")) ["sight", "expr"] (spVal K d)
  | 0 => fn_false.imp fun vs H Q E h => by
    obtain ⟨_, _, _, _, _, _, _, _, _, _, _, _, _, hd, _⟩ := h
    exact absurd hd (Nat.not_lt_zero _)
  | d + 1 => ok_expr_value_step T (k := 2 + d) (by omega) (ok_expr_value T d)
end
end K11
set_option maxHeartbeats 4000000
/-! Scope: __init__, is_free; in_fits, out_fits, row_fits -/
namespace K11
open PySem PySem.Spec PyProof.Rows L2 He
/-! ### lists of new pairs (name, width) -/
def Fcs (H : Hp) : List V → List (Str × Nat) → Prop := Paired fun v f => ∃ t, v = V.ref t ∧ H t = some (.tup [.str f.1, .int (f.2 : Nat)])
theorem paired_get {α β : Type} {F : α → β → Prop} : ∀ {xs : List α} {ys : List β} {i : Nat} {x : α}, Paired F xs ys → xs[i]? = some x → ∃ y, ys[i]? = some y ∧ F x y
  | _, _, _, _, .nil, h => by simp at h
  | _, _, 0, x, .cons f _, h => by
    have e := Option.some.inj h
    subst e
    exact ⟨_, rfl, f⟩
  | _, _, i + 1, x, .cons _ r, h => by
    obtain ⟨y, h1, h2⟩ := paired_get (i := i) r h
    exact ⟨y, h1, h2⟩
theorem paired_len {α β : Type} {F : α → β → Prop} : ∀ {xs : List α} {ys : List β}, Paired F xs ys → xs.length = ys.length
  | _, _, .nil => rfl
  | _, _, .cons _ r => congrArg Nat.succ (paired_len r)
theorem paired_map {α β : Type} {F G : α → β → Prop} (h : ∀ a b, F a b → G a b) : ∀ {xs : List α} {ys : List β}, Paired F xs ys → Paired G xs ys
  | _, _, .nil => .nil
  | _, _, .cons f r => .cons (h _ _ f) (paired_map h r)
theorem Fcs.tups {H H' : Hp} (s : Tups H H') {vs : List V} {fs : List (Str × Nat)} (h : Fcs H vs fs) : Fcs H' vs fs := paired_map (fun v f ⟨t, e, g⟩ => ⟨t, e, s _ _ g⟩) h
/-! ### rows -/
inductive Rw where
  | inn (x : Str) (n : Nat)
  | out (x : Str) (e : Ex)
def RwAt (H : Hp) : Rw → V → Prop
  | .inn x n, v => ∃ p, v = .ref p ∧ H p = some (.tup [.str "in", .str x, .int (n : Nat)])
  | .out x e, v => ∃ p u, v = .ref p ∧ H p = some (.tup [.str "out", .str x, u]) ∧ ExAt H e u
theorem RwAt.tups {H H' : Hp} (s : Tups H H') : ∀ {r : Rw} {v : V}, RwAt H r v → RwAt H' r v
  | .inn x n, v, ⟨p, e1, e2⟩ => ⟨p, e1, s _ _ e2⟩
  | .out x e, v, ⟨p, u, e1, e2, h⟩ => ⟨p, u, e1, s _ _ e2, h.tups s⟩
/-! ### a scope -/
def scFs (kn wd us wt li lo : Addr) : List (Str × V) := [("known", .ref kn), ("widths", .ref wd), ("used", .ref us), ("waiting", .ref wt), ("ins", .ref li), ("outs", .ref lo)]
structure ScAt (K : PySem.W.Frag) (H : Hp) (sc wd us wt li lo : Addr) (kvs : List (Key × V)) (fi fo : List (Str × Nat)) : Prop where
  ob : ∃ dx kn, H sc = some (.ins (ga K "Scope") dx (scFs kn wd us wt li lo))
  hw : H wd = some (.dK kvs)
  hu : H us = some (.dK [])
  ht : H wt = some (.dK [])
  hi : ∃ vs, H li = some (.lst vs) ∧ Fcs H vs fi
  ho : ∃ vs, H lo = some (.lst vs) ∧ Fcs H vs fo
  d1 : wd ≠ us
  d2 : wd ≠ wt
  d3 : li ≠ lo
theorem ScAt.scW {K : PySem.W.Frag} {H : Hp} {sc wd us wt li lo : Addr} {kvs : List (Key × V)} {fi fo : List (Str × Nat)} (h : ScAt K H sc wd us wt li lo kvs fi fo) : ScW K H sc wd kvs := by
  obtain ⟨dx, kn, h1⟩ := h.ob
  exact ⟨dx, _, h1, rfl, h.hw⟩
theorem ScAt.same {K : PySem.W.Frag} {H H' : Hp} {sc wd us wt li lo : Addr} {kvs : List (Key × V)} {fi fo : List (Str × Nat)} (s : Same H H') (h : ScAt K H sc wd us wt li lo kvs fi fo) : ScAt K H' sc wd us wt li lo kvs fi fo := by
  obtain ⟨⟨dx, kn, h1⟩, h2, h3, h4, ⟨v1, h5, h6⟩, ⟨v2, h7, h8⟩, d1, d2, d3⟩ := h
  exact ⟨⟨dx, kn, s _ _ h1⟩, s _ _ h2, s _ _ h3, s _ _ h4, ⟨v1, s _ _ h5, h6.tups (same_tups s)⟩, ⟨v2, s _ _ h7, h8.tups (same_tups s)⟩, d1, d2, d3⟩
/-- all but three stays -/
def Stp (H H' : Hp) (wd li lo : Addr) : Prop := ∀ b o, H b = some o → b ≠ wd → b ≠ li → b ≠ lo → H' b = some o
theorem Stp.refl (H : Hp) (wd li lo : Addr) : Stp H H wd li lo := fun _ _ e _ _ _ => e
theorem Stp.trans {H H1 H2 : Hp} {wd li lo : Addr} (a : Stp H H1 wd li lo) (b : Stp H1 H2 wd li lo) : Stp H H2 wd li lo := fun c o e n1 n2 n3 => b c o (a c o e n1 n2 n3) n1 n2 n3
theorem Stp.tups {K : PySem.W.Frag} {H H' : Hp} {sc wd us wt li lo : Addr} {kvs : List (Key × V)} {fi fo : List (Str × Nat)} (h : ScAt K H sc wd us wt li lo kvs fi fo) (a : Stp H H' wd li lo) : Tups H H' := fun b xs e => by
  obtain ⟨v1, h5, _⟩ := h.hi
  obtain ⟨v2, h7, _⟩ := h.ho
  exact a b _ e (ne_of e h.hw (by intro z; cases z)) (ne_of e h5 (by intro z; cases z)) (ne_of e h7 (by intro z; cases z))
/-- what a row does -/
inductive RwOk (kvs : List (Key × V)) (fi fo : List (Str × Nat)) : Rw → List (Key × V) → List (Str × Nat) → List (Str × Nat) → Prop where
  | inn {x : Str} {n : Nat} (h : valV kvs (.inr x) = none) (h1 : 1 ≤ n) (h2 : n ≤ 16) : RwOk kvs fi fo (.inn x n) (kvs ++ [(.inr x, .int n)]) (fi ++ [(x, n)]) fo
  | out {x : Str} {e : Ex} {n : Nat} (h : Wd kvs e n) (hd : e.dep < 4) (hx : ∀ f ∈ fo, f.1 ≠ x) : RwOk kvs fi fo (.out x e) kvs fi (fo ++ [(x, n)])
def spFree (K : PySem.W.Frag) : Sp := fun vs H Q _ => ∃ (sc wd us wt li lo : Addr) (kvs : List (Key × V)) (fi fo : List (Str × Nat)) (x : Str), vs = [.ref sc, .str x] ∧ ScAt K H sc wd us wt li lo kvs fi fo ∧ valV kvs (.inr x) = none ∧ Q (.bl true) H
def spRowF (K : PySem.W.Frag) (ok : Rw → Prop) : Sp := fun vs H Q _ => ∃ (sc wd us wt li lo : Addr) (kvs kvs' : List (Key × V)) (fi fo fi' fo' : List (Str × Nat)) (r : Rw) (v : V), vs = [.ref sc, v] ∧ ScAt K H sc wd us wt li lo kvs fi fo ∧ RwAt H r v ∧ RwOk kvs fi fo r kvs' fi' fo' ∧
  ok r ∧ kvs.length ≤ 100 ∧ fi.length ≤ 100 ∧ fo.length ≤ 100 ∧ ∀ H', ScAt K H' sc wd us wt li lo kvs' fi' fo' → Stp H H' wd li lo → Q (.bl true) H'
def spScInit (K : PySem.W.Frag) : Sp := fun vs H Q _ => ∃ (sc dx kn : Addr), vs = [.ref sc, .ref kn] ∧ H sc = some (.ins (ga K "Scope") dx []) ∧ ∀ H' wd us wt li lo, ScAt K H' sc wd us wt li lo [] [] [] → H wd = none → H li = none → H lo = none → (∀ b o, H b = some o → b ≠ sc → H' b = some o) → Q .non H'
section
variable {P : Program} {w : World} {K : PySem.W.Frag} {mg : Str → Option Value} {base : Heap}
/-! ### Scope.__init__ -/
theorem ok_Scope_init (T : Tx K mg) : FnOk P w K mg base CX0 1 (ma K (ga K "Scope") "__init__") (fda K (ma K (ga K "Scope") "__init__")) ["self", "known"] (spScInit K) := by
  refine T.Scope_init.fn.ok sc_Scope_init (fun vs H Q E h => ?_) (fun cdv A outer s H vs Q E hr h => ?_)
  · obtain ⟨_, _, _, rfl, _⟩ := h
    rfl
  · obtain ⟨sc, dx, kn, rfl, hp, q⟩ := h
    refine ⟨_, pss_cons (ps_fld (pv 0) (pv 1) rfl) <| pss_cons (ps_fld (pv 0) pe_dnewK rfl) <| pss_cons (ps_fld (pv 0) pe_dnewK rfl) <| pss_cons (ps_fld (pv 0) pe_dnewK rfl) <| pss_cons (ps_fld (pv 0) (pe_lst pa_nil) rfl) <| pss_one (ps_fld (pv 0) (pe_lst pa_nil) rfl), ?_⟩
    refine ⟨_, rfl, _, rfl, sc, _, dx, _, rfl, hp, T.c_Scope.cl, T.n_Scope_known, (by show 0 < 1000; decide), ?_⟩
    intro wd hwd
    have n1 : sc ≠ wd := ne_of_none upd_same hwd
    refine ⟨_, rfl, sc, _, dx, _, rfl, (by rw [upd_ne n1]; exact upd_same), T.c_Scope.cl, T.n_Scope_widths, (by show 1 < 1000; decide), ?_⟩
    intro us hus
    have n2 : sc ≠ us := ne_of_none upd_same hus
    refine ⟨_, rfl, sc, _, dx, _, rfl, (by rw [upd_ne n2]; exact upd_same), T.c_Scope.cl, T.n_Scope_used, (by show 2 < 1000; decide), ?_⟩
    intro wt hwt
    have n3 : sc ≠ wt := ne_of_none upd_same hwt
    refine ⟨_, rfl, sc, _, dx, _, rfl, (by rw [upd_ne n3]; exact upd_same), T.c_Scope.cl, T.n_Scope_waiting, (by show 3 < 1000; decide), ?_⟩
    refine ⟨Nat.zero_le _, fun li hli => ?_⟩
    have n4 : sc ≠ li := ne_of_none upd_same hli
    refine ⟨_, rfl, sc, _, dx, _, rfl, (by rw [upd_ne n4]; exact upd_same), T.c_Scope.cl, T.n_Scope_ins, (by show 4 < 1000; decide), ?_⟩
    refine ⟨Nat.zero_le _, fun lo hlo => ?_⟩
    have n5 : sc ≠ lo := ne_of_none upd_same hlo
    refine ⟨_, rfl, sc, _, dx, _, rfl, (by rw [upd_ne n5]; exact upd_same), T.c_Scope.cl, T.n_Scope_outs, (by show 5 < 1000; decide), ?_⟩
    -- what differs
    rw [upd_ne n1.symm] at hwd
    rw [upd_ne n2.symm] at hus
    rw [upd_ne n3.symm] at hwt
    rw [upd_ne n4.symm] at hli
    rw [upd_ne n5.symm] at hlo
    have m1 : wd ≠ us := fun z => by rw [← z, upd_same] at hus; cases hus
    rw [upd_ne m1.symm, upd_ne n2.symm] at hus
    have m2 : us ≠ wt := fun z => by rw [← z, upd_same] at hwt; cases hwt
    rw [upd_ne m2.symm, upd_ne n3.symm] at hwt
    have m3 : wd ≠ wt := fun z => by rw [← z, upd_same] at hwt; cases hwt
    rw [upd_ne m3.symm, upd_ne n3.symm] at hwt
    have m4 : wt ≠ li := fun z => by rw [← z, upd_same] at hli; cases hli
    rw [upd_ne m4.symm, upd_ne n4.symm] at hli
    have m5 : us ≠ li := fun z => by rw [← z, upd_same] at hli; cases hli
    rw [upd_ne m5.symm, upd_ne n4.symm] at hli
    have m6 : wd ≠ li := fun z => by rw [← z, upd_same] at hli; cases hli
    rw [upd_ne m6.symm, upd_ne n4.symm] at hli
    have m7 : li ≠ lo := fun z => by rw [← z, upd_same] at hlo; cases hlo
    rw [upd_ne m7.symm, upd_ne n5.symm] at hlo
    have m8 : wt ≠ lo := fun z => by rw [← z, upd_same] at hlo; cases hlo
    rw [upd_ne m8.symm, upd_ne n5.symm] at hlo
    have m9 : us ≠ lo := fun z => by rw [← z, upd_same] at hlo; cases hlo
    rw [upd_ne m9.symm, upd_ne n5.symm] at hlo
    have m0 : wd ≠ lo := fun z => by rw [← z, upd_same] at hlo; cases hlo
    rw [upd_ne m0.symm, upd_ne n5.symm] at hlo
    refine q _ wd us wt li lo ⟨⟨dx, kn, upd_same⟩, ?_, ?_, ?_, ⟨[], ?_, .nil⟩, ⟨[], ?_, .nil⟩, m1, m3, m7⟩ hwd hli hlo fun b o e hb => ?_
    · rw [upd_ne n1.symm, upd_ne m0, upd_ne n1.symm, upd_ne m6, upd_ne n1.symm, upd_ne m3, upd_ne n1.symm, upd_ne m1, upd_ne n1.symm, upd_same]
    · rw [upd_ne n2.symm, upd_ne m9, upd_ne n2.symm, upd_ne m5, upd_ne n2.symm, upd_ne m2, upd_ne n2.symm, upd_same]
    · rw [upd_ne n3.symm, upd_ne m8, upd_ne n3.symm, upd_ne m4, upd_ne n3.symm, upd_same]
    · rw [upd_ne n4.symm, upd_ne m7, upd_ne n4.symm, upd_same]
    · rw [upd_ne n5.symm, upd_same]
    · rw [upd_ne hb, upd_ne (ne_of_none e hlo), upd_ne hb, upd_ne (ne_of_none e hli), upd_ne hb, upd_ne (ne_of_none e hwt), upd_ne hb, upd_ne (ne_of_none e hus), upd_ne hb, upd_ne (ne_of_none e hwd), upd_ne hb]
      exact e
/-! ### is_free -/
theorem ok_is_free (T : Tx K mg) : FnOk P w K mg base CX0 1 (ma K (ga K "Scope") "is_free") (fda K (ma K (ga K "Scope") "is_free")) ["self", "name"] (spFree K) := by
  refine T.Scope_is_free.fn.ok sc_Scope_is_free (fun vs H Q E h => ?_) (fun cdv A outer s H vs Q E hr h => ?_)
  · obtain ⟨_, _, _, _, _, _, _, _, _, _, rfl, _⟩ := h
    rfl
  · obtain ⟨sc, wd, us, wt, li, lo, kvs, fi, fo, x, rfl, hS, hx, q⟩ := h
    have hu := hu_of hr
    refine ⟨_, pss_one (ps_ret (pe_and (pe_cmp (pc_dnotin hu (pv 1) (pe_fld (pv 0) rfl)) rfl) (pe_one (pe_cmp (pc_dnotin hu (pv 1) (pe_fld (pv 0) rfl)) rfl)))), ?_⟩
    obtain ⟨dx, kn, h1⟩ := hS.ob
    refine ⟨_, rfl, _, rfl, sc, _, dx, _, _, rfl, h1, T.c_Scope.cl, T.n_Scope_widths, rfl, wd, _, rfl, DGet.k (k := Sum.inr x) hS.hw, _, rfl, ?_⟩
    rw [hx]
    refine iteT ⟨_, rfl, _, rfl, sc, _, dx, _, _, rfl, h1, T.c_Scope.cl, T.n_Scope_used, rfl, us, _, rfl, DGet.k (k := Sum.inr x) hS.hu, q⟩
end
end K11
set_option maxHeartbeats 4000000
/-! in_fits, out_fits, row_fits -/
namespace K11
open PySem PySem.Spec PyProof.Rows L2 He
section
variable {P : Program} {w : World} {K : PySem.W.Frag} {mg : Str → Option Value} {base : Heap}
/-! ### in_fits -/
theorem ok_in_fits (T : Tx K mg) : FnOk P w K mg base CX0 2 (ga K "in_fits") (fda K (ga K "in_fits")) ["scope", "row"] (spRowF K fun r => ∃ x n, r = .inn x n) := by
  have GI : FnOk P w K mg base CX0 1 _ _ _ _ := ok_is_free T
  have GW : FnOk P w K mg base CX0 1 _ _ _ _ := ok_is_wide T
  refine T.in_fits.fn.ok sc_in_fits (fun vs H Q E h => ?_) (fun cdv A outer s H vs Q E hr h => ?_)
  · obtain ⟨_, _, _, _, _, _, _, _, _, _, _, _, _, _, rfl, _⟩ := h
    rfl
  · obtain ⟨sc, wd, us, wt, li, lo, kvs, kvs', fi, fo, fi', fo', _, v, rfl, hS, hR, hok, ⟨x, n, rfl⟩, hk1, hk2, hk3, q⟩ := h
    obtain ⟨p, rfl, hp⟩ := hR
    cases hok with
    | inn hx hn1 hn2 =>
    have hu := hu_of hr
    refine ⟨_, pss_cons (ps_asg (pv 1) (pg_tup rfl (pgs_cons (pg_name (i := 2) sc_in_fits.nd rfl (.inl rfl)) (pgs_cons (pg_name (i := 3) sc_in_fits.nd rfl (.inl rfl)) (pgs_cons (pg_name (i := 4) sc_in_fits.nd rfl (.inl rfl)) pgs_nil))))) <|
      pss_cons (ps_if (PW.pt (pw_or (pt_not (pt_val (pe_meth (pv 0) T.c_Scope.cl T.m_Scope_is_free GI hr T.Scope_is_free.bd .nil pass0 (pa_cons (pv 3) pa_nil))))
        (pw_or1 (pt_not (pt_val (pe_call GW hr (by rfl) T.is_wide.gl T.is_wide.fn.kp T.is_wide.bd .nil pass0 (pa_cons (pv 4) pa_nil))))))) (pss_one (ps_ret pe_bl)) pss_nil) <|
      pss_cons (ps_dput hu (pe_fld (pv 0) rfl) (pv 3) (pv 4) rfl) <|
      pss_cons (ps_expr (pe_bm PySem.F.plainAttrs_list PySem.F.slot_list_append PySem.F.type_list_append mt_append (pe_fld (pv 0) rfl) (pa_cons (pe_tup (pa_cons (pv 3) (pa_cons (pv 4) pa_nil))) pa_nil))) <|
      pss_one (ps_ret pe_bl), ?_⟩
    obtain ⟨dx, kn, h1⟩ := hS.ob
    refine ⟨_, rfl, p, _, rfl, SqT.of hp, rfl, _, _, rfl, _, _, rfl, _, _, rfl, rfl, ?_⟩
    refine ⟨_, rfl, sc, dx, _, rfl, h1, rfl, _, rfl, sc, wd, us, wt, li, lo, kvs, fi, fo, x, rfl, hS, hx, _, rfl, iteF ?_⟩
    refine ⟨_, rfl, n, rfl, hn1, hn2, _, rfl, iteF ?_⟩
    refine ⟨_, rfl, _, rfl, sc, _, dx, _, _, rfl, h1, T.c_Scope.cl, T.n_Scope_widths, rfl, _, rfl, wd, _, rfl, DPut.k (k := Sum.inr x) hS.hw (small1000 (by omega)), ?_⟩
    rw [putK_new _ hx]
    have nsw : sc ≠ wd := ne_of h1 hS.hw (by intro z; cases z)
    obtain ⟨vs, hli, hfc⟩ := hS.hi
    obtain ⟨vs2, hlo, hfc2⟩ := hS.ho
    have nlw : li ≠ wd := ne_of hli hS.hw (by intro z; cases z)
    have now : lo ≠ wd := ne_of hlo hS.hw (by intro z; cases z)
    have nsl : sc ≠ li := ne_of h1 hli (by intro z; cases z)
    refine ⟨_, rfl, sc, _, dx, _, _, rfl, (upd_ne nsw).trans h1, T.c_Scope.cl, T.n_Scope_ins, rfl, .inl ⟨rfl, vs, SqL.of ((upd_ne nlw).trans hli)⟩, _, rfl, _, rfl, (show 2 ≤ sizeLine by decide), fun t ht => ?_⟩
    have nlt : li ≠ t := ne_of_none (show upd H wd (.dK (kvs ++ [(Sum.inr x, V.int n)])) li = some (.lst vs) by rw [upd_ne nlw]; exact hli) ht
    have ntw : t ≠ wd := fun z => by rw [z, upd_same] at ht; cases ht
    have ht0 : H t = none := by rw [upd_ne ntw] at ht; exact ht
    have hl := paired_len hfc
    refine ⟨li, vs, _, rfl, rfl, (by rw [upd_ne nlt, upd_ne nlw]; exact hli), small1000 (by omega), ?_⟩
    have keep : ∀ b o, H b = some o → b ≠ wd → b ≠ li → upd (upd (upd H wd (.dK (kvs ++ [(Sum.inr x, V.int n)]))) t (.tup [V.str x, V.int n])) li (.lst (vs ++ [V.ref t])) b = some o := fun b o e b1 b2 => by
      rw [upd_ne b2, upd_ne (ne_of_none e ht0), upd_ne b1]
      exact e
    have tp : Tups H (upd (upd (upd H wd (.dK (kvs ++ [(Sum.inr x, V.int n)]))) t (.tup [V.str x, V.int n])) li (.lst (vs ++ [V.ref t]))) := fun b xs e => keep b _ e (ne_of e hS.hw (by intro z; cases z)) (ne_of e hli (by intro z; cases z))
    refine q _ ⟨⟨dx, kn, keep _ _ h1 nsw nsl⟩, ?_, keep _ _ hS.hu hS.d1.symm (ne_of hS.hu hli (by intro z; cases z)), keep _ _ hS.ht hS.d2.symm (ne_of hS.ht hli (by intro z; cases z)), ⟨_, upd_same, Paired.snoc (hfc.tups tp) ⟨t, rfl, ?_⟩⟩, ⟨vs2, keep _ _ hlo now hS.d3.symm, hfc2.tups tp⟩, hS.d1, hS.d2, hS.d3⟩ fun b o e b1 b2 b3 => keep b o e b1 b2
    · rw [upd_ne nlw.symm, upd_ne ntw.symm, upd_same]
    · rw [upd_ne nlt.symm, upd_same]
/-! ### out_fits -/
theorem inV_names {x : Str} {fo : List (Str × Nat)} (h : ∀ f ∈ fo, f.1 ≠ x) : inV (V.str x) (fo.map fun f => V.str f.1) = false := by
  unfold inV
  rw [List.any_eq_false]
  intro y hy
  obtain ⟨f, hf, rfl⟩ := List.mem_map.mp hy
  show ¬ ((f.1 == x) = true)
  intro z
  exact h f hf (beq_iff_eq.mp z)
theorem ok_out_fits (T : Tx K mg) : FnOk P w K mg base CX0 12 (ga K "out_fits") (fda K (ga K "out_fits")) ["scope", "row"] (spRowF K fun r => ∃ x e, r = .out x e) := by
  have GE : FnOk P w K mg base CX0 11 _ _ _ _ := ok_expr_wide T 4
  refine T.out_fits.fn.ok sc_out_fits (fun vs H Q E h => ?_) (fun cdv A outer s H vs Q E hr h => ?_)
  · obtain ⟨_, _, _, _, _, _, _, _, _, _, _, _, _, _, rfl, _⟩ := h
    rfl
  · obtain ⟨sc, wd, us, wt, li, lo, kvs, kvs', fi, fo, fi', fo', _, v, rfl, hS, hR, hok, ⟨x, e, rfl⟩, hk1, hk2, hk3, q⟩ := h
    obtain ⟨p, u, rfl, hp, hE⟩ := hR
    cases hok with
    | @out _ _ n hw hd hx =>
    refine ⟨_, pss_cons (ps_asg (pv 1) (pg_tup rfl (pgs_cons (pg_name (i := 2) sc_out_fits.nd rfl (.inl rfl)) (pgs_cons (pg_name (i := 3) sc_out_fits.nd rfl (.inl rfl)) (pgs_cons (pg_name (i := 4) sc_out_fits.nd rfl (.inl rfl)) pgs_nil))))) <|
      pss_cons (ps_set (i := 5) sc_out_fits.nd rfl (.inl rfl) (pe_call GE hr (by rfl) T.expr_wide.gl T.expr_wide.fn.kp T.expr_wide.bd .nil pass0 (pa_cons (pv 0) (pa_cons (pv 4) pa_nil)))) <|
      pss_cons (ps_if (PW.pt (pw_or (pt_cmpR op_isN (pv 5) pe_non (nomark _))
        (pw_or1 (pt_cmpR op_in_seq (pv 3) (pe_lc (own := [("other", 6), ("size", 7)]) (g := gTup K 2 (gCons (gName 6) (gCons (gName 7) gNil))) (tt := tYes) rfl sc_out_fits.nd (pi_list (pe_fld (pv 0) rfl))
          (blkOk_by (N := ["scope", "row", "word", "name", "expr", "wide", "other", "size"]) (sc := defScope s_out_fits) (by decide +kernel)) (fun _ _ _ _ _ => pg_tup rfl (pgs_cons (pg_name (i := 6) sc_out_fits.nd rfl (Or.inl rfl) (Or.inr rfl)) (pgs_cons (pg_name (i := 7) sc_out_fits.nd rfl (Or.inl rfl) (Or.inr rfl)) pgs_nil))) (fun _ _ _ _ _ => pts_nil)
          (fun _ _ _ _ _ => pv 6)) (by rfl))))) (pss_one (ps_ret pe_bl)) pss_nil) <|
      pss_cons (ps_expr (pe_bm PySem.F.plainAttrs_list PySem.F.slot_list_append PySem.F.type_list_append mt_append (pe_fld (pv 0) rfl) (pa_cons (pe_tup (pa_cons (pv 3) (pa_cons (pv 5) pa_nil))) pa_nil))) <|
      pss_one (ps_ret pe_bl), ?_⟩
    refine ⟨_, rfl, p, _, rfl, SqT.of hp, rfl, _, _, rfl, _, _, rfl, _, _, rfl, rfl, ?_⟩
    refine ⟨_, rfl, _, rfl, sc, wd, kvs, u, e, n, rfl, hS.scW, hE, hw, hd, fun H1 s1 => ?_⟩
    have hS1 := hS.same s1
    obtain ⟨dx, kn, h1⟩ := hS1.ob
    obtain ⟨vs, hlo, hfc⟩ := hS1.ho
    have hl := paired_len hfc
    refine ⟨_, rfl, rfl, _, rfl, iteF ?_⟩
    refine ⟨_, rfl, _, rfl, sc, _, dx, _, _, rfl, h1, T.c_Scope.cl, T.n_Scope_outs, rfl, lo, rfl, ⟨vs, SqL.of hlo⟩, fun D hD => ?_⟩
    refine lc_it (walk_list (xs := vs)) (fun i H' => Same H1 H' ∧ H' D = some (.lst ((fo.map fun f => V.str f.1).take i))) ⟨same_upd hD, upd_same⟩ (fun i H' _ h => SqL.of (h.1 _ _ hlo)) ?_ ?_
    · rintro i y H3 H4 hi ⟨s3, hD3⟩ ⟨rfl, hy⟩
      obtain ⟨f, hf, t, rfl, ht⟩ := paired_get hfc hy
      refine ⟨t, _, rfl, SqT.of (s3 _ _ ht), rfl, _, _, rfl, _, _, rfl, rfl, rfl, _, rfl, _, hD3, ?_, ?_, ?_⟩
      · rw [List.length_take]
        exact Nat.lt_of_le_of_lt (Nat.min_le_right _ _) (small1000 (by rw [List.length_map]; omega))
      · intro b' o' eb
        rw [upd_ne (ne_of_none eb hD)]
        exact s3 _ _ eb
      · rw [upd_same, List.take_add_one, List.getElem?_map, hf]
        rfl
    · rintro H3 ⟨s3, hD3⟩
      have hS3 := hS1.same s3
      have e1 : (fo.map fun f => V.str f.1).take vs.length = fo.map fun f => V.str f.1 := List.take_of_length_le (by rw [List.length_map]; omega)
      rw [e1] at hD3
      refine ⟨D, _, rfl, .inl (SqL.of hD3), rfl, ?_, _, rfl, ?_⟩
      · rw [List.all_eq_true]
        intro y hy
        obtain ⟨f, _, rfl⟩ := List.mem_map.mp hy
        rfl
      rw [show (if false = true then !inV (V.str x) (fo.map fun f => V.str f.1) else inV (V.str x) (fo.map fun f => V.str f.1)) = inV (V.str x) (fo.map fun f => V.str f.1) from rfl, inV_names hx]
      refine iteF ?_
      have g1 := s3 _ _ h1
      have g2 := s3 _ _ hlo
      refine ⟨_, rfl, sc, _, dx, _, _, rfl, g1, T.c_Scope.cl, T.n_Scope_outs, rfl, .inl ⟨rfl, vs, SqL.of g2⟩, _, rfl, _, rfl, (show 2 ≤ sizeLine by decide), fun t ht => ?_⟩
      have nlt : lo ≠ t := ne_of_none g2 ht
      refine ⟨lo, vs, _, rfl, rfl, (by rw [upd_ne nlt]; exact g2), small1000 (by omega), ?_⟩
      have keep : ∀ b o, H3 b = some o → b ≠ lo → upd (upd H3 t (.tup [V.str x, V.int n])) lo (.lst (vs ++ [V.ref t])) b = some o := fun b o e b2 => by
        rw [upd_ne b2, upd_ne (ne_of_none e ht)]
        exact e
      have tp : Tups H3 (upd (upd H3 t (.tup [V.str x, V.int n])) lo (.lst (vs ++ [V.ref t]))) := fun b xs e => keep b _ e (ne_of e g2 (by intro z; cases z))
      obtain ⟨vs2, hli, hfc2⟩ := hS3.hi
      refine q _ ⟨⟨dx, kn, keep _ _ g1 (ne_of g1 g2 (by intro z; cases z))⟩, keep _ _ hS3.hw (ne_of hS3.hw g2 (by intro z; cases z)), keep _ _ hS3.hu (ne_of hS3.hu g2 (by intro z; cases z)), keep _ _ hS3.ht (ne_of hS3.ht g2 (by intro z; cases z)), ⟨vs2, keep _ _ hli hS.d3, hfc2.tups tp⟩,
        ⟨_, upd_same, Paired.snoc ((hfc.tups (same_tups s3)).tups tp) ⟨t, rfl, ?_⟩⟩, hS.d1, hS.d2, hS.d3⟩ fun b o e b1 b2 b3 => keep b o (s3 _ _ (s1 _ _ e)) b3
      rw [upd_ne nlt.symm, upd_same]
/-! ### row_fits -/
theorem ifx_ne {i : Nat} {a b : Str} {p : Addr} {r : List V} {t : TS} {D : Ends} {σ : L2.St} {H : Hp} (hs : σ[i]? = some (some (.ref p))) (hp : H p = some (.tup (.str a :: r))) (h : a ≠ b) (q : D.nx σ H) : tIfS (tTest (tOp rEq (tOp (rIxT K) (tVar i) (tC (.int 0))) (tC (.str b)))) t tNext D σ H := by
  refine ⟨_, hs, p, _, _, _, rfl, rfl, SqT.of hp, atI_nat (j := 0) rfl, rfl, _, rfl, ?_⟩
  have e : decide (V.str a = V.str b) = false := decide_eq_false fun z => h (V.str.inj z)
  rw [e]
  exact iteF q
theorem ifx_eq {i : Nat} {a : Str} {p : Addr} {r : List V} {t u : TS} {D : Ends} {σ : L2.St} {H : Hp} (hs : σ[i]? = some (some (.ref p))) (hp : H p = some (.tup (.str a :: r))) (q : t D σ H) : tIfS (tTest (tOp rEq (tOp (rIxT K) (tVar i) (tC (.int 0))) (tC (.str a)))) t u D σ H := by
  refine ⟨_, hs, p, _, _, _, rfl, rfl, SqT.of hp, atI_nat (j := 0) rfl, rfl, _, rfl, ?_⟩
  rw [decide_eq_true rfl]
  exact iteT q
theorem ok_row_fits (T : Tx K mg) : FnOk P w K mg base CX0 13 (ga K "row_fits") (fda K (ga K "row_fits")) ["scope", "row"] (spRowF K fun _ => True) := by
  have GI : FnOk P w K mg base CX0 12 _ _ _ _ := (ok_in_fits T).mono (by decide)
  have GO : FnOk P w K mg base CX0 12 _ _ _ _ := ok_out_fits T
  refine T.row_fits.fn.ok sc_row_fits (fun vs H Q E h => ?_) (fun cdv A outer s H vs Q E hr h => ?_)
  · obtain ⟨_, _, _, _, _, _, _, _, _, _, _, _, _, _, rfl, _⟩ := h
    rfl
  · obtain ⟨sc, wd, us, wt, li, lo, kvs, kvs', fi, fo, fi', fo', r, v, rfl, hS, hR, hok, _, hk1, hk2, hk3, q⟩ := h
    have hR' := hR
    refine ⟨_, pss_cons (ps_if (pt_cmpR op_eq (ixT (pv 1)) pe_str (nomark _)) (pss_one (ps_ret (pe_call GI hr (by rfl) T.in_fits.gl T.in_fits.fn.kp T.in_fits.bd .nil pass0 (pa_cons (pv 0) (pa_cons (pv 1) pa_nil))))) pss_nil) <|
      pss_cons (ps_if (pt_cmpR op_eq (ixT (pv 1)) pe_str (nomark _)) pss_never pss_nil) <|
      pss_cons (ps_if (pt_cmpR op_eq (ixT (pv 1)) pe_str (nomark _)) pss_never pss_nil) <|
      pss_cons (ps_if (pt_cmpR op_eq (ixT (pv 1)) pe_str (nomark _)) pss_never pss_nil) <|
      pss_cons (ps_if (pt_cmpR op_eq (ixT (pv 1)) pe_str (nomark _)) pss_never pss_nil) <|
      pss_one (ps_ret (pe_call GO hr (by rfl) T.out_fits.gl T.out_fits.fn.kp T.out_fits.bd .nil pass0 (pa_cons (pv 0) (pa_cons (pv 1) pa_nil)))), ?_⟩
    cases r with
    | inn x n =>
      obtain ⟨p, rfl, hp⟩ := hR
      exact ifx_eq rfl hp ⟨_, rfl, _, rfl, sc, wd, us, wt, li, lo, kvs, kvs', fi, fo, fi', fo', _, _, rfl, hS, hR', hok, ⟨x, n, rfl⟩, hk1, hk2, hk3, q⟩
    | out x e =>
      obtain ⟨p, u, rfl, hp, hE⟩ := hR
      exact ifx_ne rfl hp (by decide +kernel) <| ifx_ne rfl hp (by decide +kernel) <| ifx_ne rfl hp (by decide +kernel) <| ifx_ne rfl hp (by decide +kernel) <| ifx_ne rfl hp (by decide +kernel) <|
        ⟨_, rfl, _, rfl, sc, wd, us, wt, li, lo, kvs, kvs', fi, fo, fi', fo', _, _, rfl, hS, hR', hok, ⟨x, e, rfl⟩, hk1, hk2, hk3, q⟩
end
end K11
set_option maxHeartbeats 4000000
/-! Face.__init__, face_of, top_face, faces -/
namespace K11
open PySem PySem.Spec PyProof.Rows L2 He
/-! ### modules, faces -/
def mdFs (tr : Addr) : List (Str × V) := [("name", .str "top"), ("rows", .ref tr)]
def MdAt (K : PySem.W.Frag) (H : Hp) (md : Addr) (rows : List Rw) : Prop := ∃ dx tr vs, H md = some (.ins (ga K "Module") dx (mdFs tr)) ∧ H tr = some (.tup vs) ∧ Paired (fun v r => RwAt H r v) vs rows ∧ rows.length ≤ 50
theorem MdAt.same {K : PySem.W.Frag} {H H' : Hp} {md : Addr} {rows : List Rw} (s : Same H H') (h : MdAt K H md rows) : MdAt K H' md rows := by
  obtain ⟨dx, tr, vs, h1, h2, h3, h4⟩ := h
  exact ⟨dx, tr, vs, s _ _ h1, s _ _ h2, paired_map (fun v r g => g.tups (same_tups s)) h3, h4⟩
def fcFs (li lo : Addr) : List (Str × V) := [("ins", .ref li), ("outs", .ref lo)]
def FaceAt (K : PySem.W.Frag) (H : Hp) (fa : Addr) (fi fo : List (Str × Nat)) : Prop := ∃ dx li lo vi vo, H fa = some (.ins (ga K "Face") dx (fcFs li lo)) ∧ H li = some (.lst vi) ∧ H lo = some (.lst vo) ∧ Fcs H vi fi ∧ Fcs H vo fo
theorem FaceAt.same {K : PySem.W.Frag} {H H' : Hp} {fa : Addr} {fi fo : List (Str × Nat)} (s : Same H H') (h : FaceAt K H fa fi fo) : FaceAt K H' fa fi fo := by
  obtain ⟨dx, li, lo, vi, vo, h1, h2, h3, h4, h5⟩ := h
  exact ⟨dx, li, lo, vi, vo, s _ _ h1, s _ _ h2, s _ _ h3, h4.tups (same_tups s), h5.tups (same_tups s)⟩
/-- the states of a scope over the rows -/
structure Sts where
  kvs : Nat → List (Key × V)
  fi : Nat → List (Str × Nat)
  fo : Nat → List (Str × Nat)
structure Sts.Ok (S : Sts) (rows : List Rw) : Prop where
  k0 : S.kvs 0 = []
  i0 : S.fi 0 = []
  o0 : S.fo 0 = []
  st : ∀ i r, rows[i]? = some r → RwOk (S.kvs i) (S.fi i) (S.fo i) r (S.kvs (i + 1)) (S.fi (i + 1)) (S.fo (i + 1))
  z1 : ∀ i, i < rows.length → (S.kvs i).length ≤ 100
  z2 : ∀ i, i < rows.length → (S.fi i).length ≤ 100
  z3 : ∀ i, i < rows.length → (S.fo i).length ≤ 100
  ne : S.fo rows.length ≠ []
def spFaceInit (K : PySem.W.Frag) : Sp := fun vs H Q _ => ∃ (fa dx li lo : Addr) (vi vo : List V), vs = [.ref fa, .ref li, .ref lo] ∧ H fa = some (.ins (ga K "Face") dx []) ∧ H li = some (.lst vi) ∧ H lo = some (.lst vo) ∧
  ∀ H' l1 l2, H' fa = some (.ins (ga K "Face") dx (fcFs l1 l2)) → H' l1 = some (.lst vi) → H' l2 = some (.lst vo) → (∀ b o, H b = some o → b ≠ fa → H' b = some o) → Q .non H'
def spFaceOf (K : PySem.W.Frag) : Sp := fun vs H Q _ => ∃ (md kn : Addr) (line : Int) (rows : List Rw) (S : Sts), vs = [.ref md, .ref kn, .int line] ∧ MdAt K H md rows ∧ H kn = some (.dK []) ∧ S.Ok rows ∧
  ∀ H' fa, Same H H' → FaceAt K H' fa (S.fi rows.length) (S.fo rows.length) → Q (.ref fa) H'
def spTop (K : PySem.W.Frag) : Sp := fun vs H Q _ => ∃ (ml md : Addr) (rows : List Rw) (S : Sts), vs = [.ref ml] ∧ H ml = some (.lst [.ref md]) ∧ MdAt K H md rows ∧ S.Ok rows ∧
  ∀ H' fa, Same H H' → FaceAt K H' fa (S.fi rows.length) (S.fo rows.length) → Q (.ref fa) H'
def spFaces (K : PySem.W.Frag) : Sp := fun vs H Q _ => ∃ (ml md : Addr) (rows : List Rw) (S : Sts), vs = [.ref ml] ∧ H ml = some (.lst [.ref md]) ∧ MdAt K H md rows ∧ S.Ok rows ∧
  ∀ H' t l1 l2 vi, Same H H' → H' t = some (.tup [.ref l1, .ref l2]) → H' l1 = some (.lst vi) → Fcs H' vi (S.fi rows.length) → Q (.ref t) H'
section
variable {P : Program} {w : World} {K : PySem.W.Frag} {mg : Str → Option Value} {base : Heap}
/-! ### Face.__init__ -/
theorem ok_Face_init (T : Tx K mg) : FnOk P w K mg base CX0 1 (ma K (ga K "Face") "__init__") (fda K (ma K (ga K "Face") "__init__")) ["self", "ins", "outs"] (spFaceInit K) := by
  refine T.Face_init.fn.ok sc_Face_init (fun vs H Q E h => ?_) (fun cdv A outer s H vs Q E hr h => ?_)
  · obtain ⟨_, _, _, _, _, _, rfl, _⟩ := h
    rfl
  · obtain ⟨fa, dx, li, lo, vi, vo, rfl, hf, hi, ho, q⟩ := h
    refine ⟨_, pss_cons (ps_fld (pv 0) (pe_callTy call_list_of (by rfl) T.z_list (by decide +kernel) (pa_cons (pv 1) pa_nil)) rfl) <| pss_one (ps_fld (pv 0) (pe_callTy call_list_of (by rfl) T.z_list (by decide +kernel) (pa_cons (pv 2) pa_nil)) rfl), ?_⟩
    refine ⟨_, rfl, li, vi, rfl, .inl (SqL.of hi), fun l1 h1 => ?_⟩
    have n1 : fa ≠ l1 := ne_of_none hf h1
    have nfo : lo ≠ fa := ne_of ho hf (by intro z; cases z)
    have n1o : lo ≠ l1 := ne_of_none ho h1
    refine ⟨_, rfl, fa, _, dx, _, rfl, (upd_ne n1).trans hf, T.c_Face.cl, T.n_Face_ins, (by show 0 < 1000; decide), ?_⟩
    refine ⟨_, rfl, lo, vo, rfl, .inl (SqL.of ((upd_ne nfo).trans ((upd_ne n1o).trans ho))), fun l2 h2 => ?_⟩
    have n2 : fa ≠ l2 := ne_of_none upd_same h2
    rw [upd_ne n2.symm] at h2
    have n3 : l1 ≠ l2 := ne_of_none upd_same h2
    rw [upd_ne n3.symm] at h2
    refine ⟨_, rfl, fa, _, dx, _, rfl, (upd_ne n2).trans upd_same, T.c_Face.cl, T.n_Face_outs, (by show 1 < 1000; decide), ?_⟩
    refine q _ l1 l2 upd_same ?_ ?_ fun b o e hb => ?_
    · rw [upd_ne n1.symm, upd_ne n3, upd_ne n1.symm, upd_same]
    · rw [upd_ne n2.symm, upd_same]
    · rw [upd_ne hb, upd_ne (ne_of_none e h2), upd_ne hb, upd_ne (ne_of_none e h1)]
      exact e
/-! ### face_of -/
theorem ok_face_of (T : Tx K mg) : FnOk P w K mg base CX0 14 (ga K "face_of") (fda K (ga K "face_of")) ["module", "known", "line"] (spFaceOf K) := by
  have GS : FnOk P w K mg base CX0 1 _ _ _ _ := ok_Scope_init T
  have GF : FnOk P w K mg base CX0 1 _ _ _ _ := ok_Face_init T
  have GR : FnOk P w K mg base CX0 13 _ _ _ _ := ok_row_fits T
  refine T.face_of.fn.ok sc_face_of (fun vs H Q E h => ?_) (fun cdv A outer s H vs Q E hr h => ?_)
  · obtain ⟨_, _, _, _, _, rfl, _⟩ := h
    rfl
  · obtain ⟨md, kn, line, rows, S, rfl, hM, hkn, hS, q⟩ := h
    have hu := hu_of hr
    have hr2 : Room 2 _ := hr.mono (by decide)
    refine ⟨_, pss_cons (ps_if (pt_cmp (pc_din hu (pe_fld (pv 0) rfl) (pv 1))) pss_never pss_nil) <|
      pss_cons (ps_set (i := 3) sc_face_of.nd rfl (.inl rfl) (pe_make T.c_Scope.mkr GS hr2 (by rfl) T.c_Scope.gl T.Scope_init.bd .nil pass0 (pa_cons (pv 1) pa_nil))) <|
      pss_cons (ps_for PassesOwn.never rfl (pi_enumT (by rfl) T.z_enumerate (pa_cons (pe_fld (pv 0) rfl) pa_nil)) (pg_tup rfl (pgs_cons (pg_name (i := 4) sc_face_of.nd rfl (.inl rfl)) (pgs_cons (pg_name (i := 5) sc_face_of.nd rfl (.inl rfl)) pgs_nil)))
        (pss_one (ps_if (pt_not (pt_val (pe_call GR hr (by rfl) T.row_fits.gl T.row_fits.fn.kp T.row_fits.bd .nil pass0 (pa_cons (pv 3) (pa_cons (pv 5) pa_nil))))) pss_never pss_nil))) <|
      pss_cons (ps_if (PW.pt (pw_or (pt_cmpR op_gt (pe_callB call_lenD (by rfl) T.z_len PySem.boot_len (pa_cons (pe_fld (pv 3) rfl) pa_nil)) pe_int (nomark _)) (pw_or1 (pt_cmpR op_eq (pe_callB call_len_seq (by rfl) T.z_len PySem.boot_len (pa_cons (pe_fld (pv 3) rfl) pa_nil)) pe_int (nomark _))))) pss_never pss_nil) <|
      pss_one (ps_ret (pe_make T.c_Face.mkr GF hr2 (by rfl) T.c_Face.gl T.Face_init.bd .nil pass0 (pa_cons (pe_fld (pv 3) rfl) (pa_cons (pe_fld (pv 3) rfl) pa_nil)))), ?_⟩
    obtain ⟨dm, tr, vr, hm1, hm2, hm3, hm4⟩ := hM
    refine ⟨_, rfl, md, _, dm, _, _, rfl, hm1, T.c_Module.cl, T.n_Module_name, rfl, _, rfl, kn, _, rfl, DGet.k (k := Sum.inr "top") hkn, _, rfl, iteF ?_⟩
    -- scope = Scope(known)
    refine ⟨_, rfl, fun sc dx nsc ndx nex => ?_⟩
    have s0 : Same H (upd (upd H dx (.own sc)) sc (.ins (ga K "Scope") dx [])) := fun b o e => by
      rw [upd_ne (ne_of_none e nsc), upd_ne (ne_of_none e ndx)]
      exact e
    refine ⟨sc, dx, kn, rfl, upd_same, fun H1 wd us wt li lo hC nwd nli nlo kp => ⟨rfl, ?_⟩⟩
    have s1 : Same H H1 := fun b o e => kp b o (s0 b o e) (ne_of_none e nsc)
    have fwd : H wd = none := s0.free nwd
    have fli : H li = none := s0.free nli
    have flo : H lo = none := s0.free nlo
    -- the loop
    refine ⟨_, rfl, md, _, dm, _, _, rfl, s1 _ _ hm1, T.c_Module.cl, T.n_Module_rows, rfl, tr, vr, rfl, SqT.of (s1 _ _ hm2), ?_⟩
    have hl := paired_len hm3
    refine for_it (walk_enumT (xs := vr)) (fun i σ H' => ∃ z4 z5, σ = [some (.ref md), some (.ref kn), some (.int line), some (.ref sc), z4, z5] ∧ ScAt K H' sc wd us wt li lo (S.kvs i) (S.fi i) (S.fo i) ∧ Same H H') ⟨none, none, rfl, by rw [hS.k0, hS.i0, hS.o0]; exact hC, s1⟩ (fun i σ H' _ ⟨_, _, _, _, s2⟩ => SqT.of (s2 _ _ hm2)) ?_ ?_
    · rintro i y σ H2 H3 hi ⟨z4, z5, rfl, hC2, s2⟩ ⟨t, x1, x2, rfl, ht, rfl, hx1, hx2⟩
      cases hx1
      obtain ⟨r, hr1, hr2⟩ := paired_get hm3 hx2
      have s3 : Same H2 (upd H2 t (.tup [.int (i : Nat), x2])) := same_upd ht
      have hC3 := hC2.same s3
      refine ⟨t, _, rfl, SqT.of upd_same, rfl, _, _, rfl, _, _, rfl, rfl, ?_⟩
      refine ⟨_, rfl, _, rfl, sc, wd, us, wt, li, lo, _, _, _, _, _, _, r, x2, rfl, hC3, hr2.tups (same_tups (s2.trans s3)), hS.st i r hr1, trivial, hS.z1 i (by omega), hS.z2 i (by omega), hS.z3 i (by omega), fun H4 hC4 st4 => ⟨_, rfl, iteF ?_⟩⟩
      exact ⟨_, _, rfl, hC4, fun b o e => st4 b o (s3 _ _ (s2 _ _ e)) (ne_of_none e fwd) (ne_of_none e fli) (ne_of_none e flo)⟩
    · rintro σ H2 ⟨z4, z5, rfl, hC2, s2⟩
      rw [hl] at hC2
      obtain ⟨dx2, kn2, o1⟩ := hC2.ob
      obtain ⟨vo, ho1, ho2⟩ := hC2.ho
      obtain ⟨vi, hi1, hi2⟩ := hC2.hi
      refine ⟨_, rfl, sc, _, dx2, _, _, rfl, o1, T.c_Scope.cl, T.n_Scope_waiting, rfl, wt, _, rfl, hC2.ht, _, _, rfl, rfl, _, rfl, iteF ?_⟩
      refine ⟨_, rfl, sc, _, dx2, _, _, rfl, o1, T.c_Scope.cl, T.n_Scope_outs, rfl, lo, vo, rfl, .inl (SqL.of ho1), rfl, _, rfl, ?_⟩
      have nz : ¬ (V.int (vo.length : Int) = V.int 0) := fun z => by
        have e1 := V.int.inj z
        have e2 := paired_len ho2
        have e3 : (S.fo rows.length).length = 0 := by omega
        exact hS.ne (List.eq_nil_of_length_eq_zero e3)
      rw [show decide (V.int (vo.length : Int) = V.int 0) = false from decide_eq_false nz]
      refine iteF ?_
      refine ⟨_, rfl, sc, _, dx2, _, _, rfl, o1, T.c_Scope.cl, T.n_Scope_ins, rfl, _, rfl, sc, _, dx2, _, _, rfl, o1, T.c_Scope.cl, T.n_Scope_outs, rfl, fun fa df nfa ndf nef => ?_⟩
      have s3 : Same H2 (upd (upd H2 df (.own fa)) fa (.ins (ga K "Face") df [])) := fun b o e => by
        rw [upd_ne (ne_of_none e nfa), upd_ne (ne_of_none e ndf)]
        exact e
      refine ⟨fa, df, li, lo, vi, vo, rfl, upd_same, s3 _ _ hi1, s3 _ _ ho1, fun H4 l1 l2 g1 g2 g3 kp4 => ⟨rfl, ?_⟩⟩
      have s4 : Same H2 H4 := fun b o e => kp4 b o (s3 _ _ e) (ne_of_none e nfa)
      exact q H4 fa (s2.trans s4) ⟨df, l1, l2, vi, vo, g1, g2, g3, hi2.tups (same_tups s4), ho2.tups (same_tups s4)⟩
/-! ### top_face -/
theorem ok_top_face (T : Tx K mg) : FnOk P w K mg base CX0 15 (ga K "top_face") (fda K (ga K "top_face")) ["modules"] (spTop K) := by
  have GF : FnOk P w K mg base CX0 14 _ _ _ _ := ok_face_of T
  refine T.top_face.fn.ok sc_top_face (fun vs H Q E h => ?_) (fun cdv A outer s H vs Q E hr h => ?_)
  · obtain ⟨_, _, _, _, rfl, _⟩ := h
    rfl
  · obtain ⟨ml, md, rows, S, rfl, hml, hM, hS, q⟩ := h
    have hu := hu_of hr
    refine ⟨_, pss_cons (ps_if (pt_cmpR op_eq (pe_callB call_len_seq (by rfl) T.z_len PySem.boot_len (pa_cons (pv 0) pa_nil)) pe_int (nomark _)) pss_never pss_nil) <|
      pss_cons (ps_set (i := 1) sc_top_face.nd rfl (.inl rfl) pe_dnewK) <|
      pss_cons (ps_set (i := 2) sc_top_face.nd rfl (.inl rfl) pe_int) <|
      pss_cons (ps_for PassesOwn.never rfl (pi_list (pv 0)) (pg_name (i := 3) sc_top_face.nd rfl (.inl rfl))
        (pss_cons (ps_dput hu (pv 1) (pe_fld (pv 3) rfl) (pe_call GF hr (by rfl) T.face_of.gl T.face_of.fn.kp T.face_of.bd .nil pass0 (pa_cons (pv 3) (pa_cons (pv 1) (pa_cons (pv 2) pa_nil)))) rfl) <|
        pss_one (ps_aug (i := 2) sc_top_face.nd rfl (.inl rfl) (pe_op op_add (pe_callB call_len_seq (by rfl) T.z_len PySem.boot_len (pa_cons (pe_fld (pv 3) rfl) pa_nil)) pe_int) ip_add))) <|
      pss_one (ps_ret (pe_dget hu (pv 1) (pe_fld (pe_ix ix_list (pv 0) (pe_un un_neg pe_int) (fun _ _ => rfl)) rfl) (fun _ _ => rfl))), ?_⟩
    obtain ⟨dm, tr, vr, hm1, hm2, hm3, hm4⟩ := id hM
    refine ⟨_, rfl, ml, _, rfl, .inl (SqL.of hml), rfl, _, rfl, iteF ?_⟩
    intro kn hkn
    have s0 : Same H (upd H kn (.dK [])) := same_upd hkn
    refine ⟨_, rfl, ml, rfl, ⟨_, SqL.of (s0 _ _ hml)⟩, ?_⟩
    refine for_list (K := K) (a := ml) (xs := [V.ref md]) (fun i σ H' => ∃ l z, σ = [some (.ref ml), some (.ref kn), some (.int l), z] ∧ Same H H' ∧ ((i = 0 ∧ H' kn = some (.dK [])) ∨ (i = 1 ∧ ∃ fa, H' kn = some (.dK [(Sum.inr "top", .ref fa)]) ∧ FaceAt K H' fa (S.fi rows.length) (S.fo rows.length)))) ⟨0, none, rfl, s0, .inl ⟨rfl, upd_same⟩⟩ (fun i σ H' _ ⟨_, _, _, s2, _⟩ => SqL.of (s2 _ _ hml)) ?_ ?_
    · rintro i y σ H2 hi ⟨l, z, rfl, s2, hd⟩
      have hi1 : i < 1 := (List.getElem?_eq_some_iff.mp hi).1
      have i0 : i = 0 := by omega
      subst i0
      cases hi
      rcases hd with ⟨_, hk2⟩ | ⟨z1, _⟩
      · refine ⟨_, rfl, _, rfl, _, rfl, md, kn, l, rows, S, rfl, hM.same s2, hk2, hS, fun H3 fa s3 hF => ?_⟩
        have s23 := s2.trans s3
        refine ⟨_, rfl, _, rfl, md, _, dm, _, _, rfl, s23 _ _ hm1, T.c_Module.cl, T.n_Module_name, rfl, kn, _, rfl, DPut.k (k := Sum.inr "top") (s3 _ _ hk2) (small1000 (by decide)), ?_⟩
        have nmk : md ≠ kn := ne_of (s23 _ _ hm1) (s3 _ _ hk2) (by intro z; cases z)
        have ntk : tr ≠ kn := ne_of (s23 _ _ hm2) (s3 _ _ hk2) (by intro z; cases z)
        refine ⟨_, rfl, _, rfl, md, _, dm, _, _, rfl, (upd_ne nmk).trans (s23 _ _ hm1), T.c_Module.cl, T.n_Module_rows, rfl, tr, vr, rfl, .inr (SqT.of ((upd_ne ntk).trans (s23 _ _ hm2))), _, _, rfl, rfl, _, _, rfl, rfl, ?_⟩
        have keep : ∀ b o, H3 b = some o → b ≠ kn → upd H3 kn (.dK (putK [] (Sum.inr "top") (V.ref fa))) b = some o := fun b o e h => (upd_ne h).trans e
        have nk : ∀ {b o}, H3 b = some o → (∀ k, o ≠ .dK k) → b ≠ kn := fun e h => ne_of e (s3 _ _ hk2) (h _)
        refine ⟨_, _, rfl, fun b o e => keep b o (s23 _ _ e) (ne_of_none e hkn), .inr ⟨rfl, fa, upd_same, ?_⟩⟩
        obtain ⟨dx, li, lo, vi, vo, g1, g2, g3, g4, g5⟩ := hF
        have tp : Tups H3 (upd H3 kn (.dK (putK [] (Sum.inr "top") (V.ref fa)))) := fun b xs e => keep b _ e (nk e (by intro k z; cases z))
        exact ⟨dx, li, lo, vi, vo, keep _ _ g1 (nk g1 (by intro k z; cases z)), keep _ _ g2 (nk g2 (by intro k z; cases z)), keep _ _ g3 (nk g3 (by intro k z; cases z)), g4.tups tp, g5.tups tp⟩
      · cases z1
    · rintro σ H2 ⟨l, z, rfl, s2, hd⟩
      rcases hd with ⟨z1, _⟩ | ⟨_, fa, hk2, hF⟩
      · cases z1
      · refine ⟨_, rfl, _, rfl, 1, rfl, ml, _, _, _, rfl, rfl, SqL.of (s2 _ _ hml), rfl, md, _, dm, _, _, rfl, s2 _ _ hm1, T.c_Module.cl, T.n_Module_name, rfl, kn, .ref fa, rfl, DGet.k (k := Sum.inr "top") hk2, ?_⟩
        exact q H2 fa s2 hF
/-! ### faces -/
theorem ok_faces (T : Tx K mg) : FnOk P w K mg base CX0 16 (ga K "faces") (fda K (ga K "faces")) ["modules"] (spFaces K) := by
  have GF : FnOk P w K mg base CX0 15 _ _ _ _ := ok_top_face T
  refine T.faces.fn.ok sc_faces (fun vs H Q E h => ?_) (fun cdv A outer s H vs Q E hr h => ?_)
  · obtain ⟨_, _, _, _, rfl, _⟩ := h
    rfl
  · obtain ⟨ml, md, rows, S, rfl, hml, hM, hS, q⟩ := h
    refine ⟨_, pss_cons (ps_set (i := 1) sc_faces.nd rfl (.inl rfl) (pe_call GF hr (by rfl) T.top_face.gl T.top_face.fn.kp T.top_face.bd .nil pass0 (pa_cons (pv 0) pa_nil))) <|
      pss_one (ps_ret (pe_tup (pa_cons (pe_callTy call_list_of (by rfl) T.z_list (by decide +kernel) (pa_cons (pe_fld (pv 1) rfl) pa_nil)) (pa_cons (pe_callTy call_list_of (by rfl) T.z_list (by decide +kernel) (pa_cons (pe_fld (pv 1) rfl) pa_nil)) pa_nil)))), ?_⟩
    refine ⟨_, rfl, ml, md, rows, S, rfl, hml, hM, hS, fun H1 fa s1 hF => ?_⟩
    obtain ⟨dx, li, lo, vi, vo, g1, g2, g3, g4, g5⟩ := hF
    refine ⟨_, rfl, fa, _, dx, _, _, rfl, g1, T.c_Face.cl, T.n_Face_ins, rfl, li, vi, rfl, .inl (SqL.of g2), fun l1 h1 => ?_⟩
    have s2 : Same H1 (upd H1 l1 (.lst vi)) := same_upd h1
    refine ⟨_, rfl, fa, _, dx, _, _, rfl, s2 _ _ g1, T.c_Face.cl, T.n_Face_outs, rfl, lo, vo, rfl, .inl (SqL.of (s2 _ _ g3)), fun l2 h2 => ?_⟩
    have s3 : Same (upd H1 l1 (.lst vi)) (upd (upd H1 l1 (.lst vi)) l2 (.lst vo)) := same_upd h2
    refine ⟨show 2 ≤ sizeLine by decide, fun t ht => ?_⟩
    have s4 : Same (upd (upd H1 l1 (.lst vi)) l2 (.lst vo)) (upd (upd (upd H1 l1 (.lst vi)) l2 (.lst vo)) t (.tup [.ref l1, .ref l2])) := same_upd ht
    exact q _ t l1 l2 vi (s1.trans (s2.trans (s3.trans s4))) upd_same (s4 _ _ (s3 _ _ upd_same)) (g4.tups (same_tups (s2.trans (s3.trans s4))))
end
end K11
set_option maxHeartbeats 4000000
/-! Unit, Sight, row_played, unit_played, unit_moved, held_in -/
namespace K11
open PySem PySem.Spec PyProof.Rows L2 He
theorem upd_id {H : Hp} {d : Addr} {u : HO} (h : H d = some u) : upd H d u = H := by
  funext b
  unfold upd
  split
  · rename_i e
    rw [e, h]
  · rfl
/-! ### units -/
def unFs (md h l u : Addr) : List (Str × V) := [("module", .ref md), ("holding", .ref h), ("later", .ref l), ("used", .ref u)]
def UnAt (K : PySem.W.Frag) (H : Hp) (un md : Addr) : Prop := ∃ dx h l u, H un = some (.ins (ga K "Unit") dx (unFs md h l u)) ∧ H h = some (.dK []) ∧ H l = some (.dK []) ∧ H u = some (.dK [])
theorem UnAt.same {K : PySem.W.Frag} {H H' : Hp} {un md : Addr} (s : Same H H') (h : UnAt K H un md) : UnAt K H' un md := by
  obtain ⟨dx, a, b, c, h1, h2, h3, h4⟩ := h
  exact ⟨dx, a, b, c, s _ _ h1, s _ _ h2, s _ _ h3, s _ _ h4⟩
def spUnitInit (K : PySem.W.Frag) : Sp := fun vs H Q _ => ∃ (un dx kn md : Addr) (rows : List Rw), vs = [.ref un, .ref kn, .ref md] ∧ H un = some (.ins (ga K "Unit") dx []) ∧ MdAt K H md rows ∧ ∀ H', UnAt K H' un md → (∀ b o, H b = some o → b ≠ un → H' b = some o) → Q .non H'
/-! ### names that have values -/
def Nms (H : Hp) : List (Key × V) → List (Str × Int × Nat) → Prop := Paired fun kv f => kv.1 = Sum.inr f.1 ∧ ∃ t, kv.2 = V.ref t ∧ H t = some (.tup [.int f.2.1, .int (f.2.2 : Nat)])
theorem Nms.tups {H H' : Hp} (s : Tups H H') {vs : List (Key × V)} {fs : List (Str × Int × Nat)} (h : Nms H vs fs) : Nms H' vs fs := paired_map (fun v f ⟨e, t, e2, g⟩ => ⟨e, t, e2, s _ _ g⟩) h
def ρOf (nl : List (Str × Int × Nat)) (x : Str) : Option (Int × Nat) := (nl.find? fun f => decide (f.1 = x)).map (·.2)
theorem Nms.find {H : Hp} {x : Str} : ∀ {kvs : List (Key × V)} {nl : List (Str × Int × Nat)}, Nms H kvs nl → (ρOf nl x = none ∧ valV kvs (.inr x : Key) = none) ∨ ∃ v n t, ρOf nl x = some (v, n) ∧ valV kvs (.inr x : Key) = some (.ref t) ∧ H t = some (.tup [.int v, .int (n : Nat)])
  | _, _, .nil => .inl ⟨rfl, rfl⟩
  | kv :: kvs, f :: nl, .cons ⟨e, t, e2, g⟩ r => by
    by_cases h : f.1 = x
    · refine .inr ⟨f.2.1, f.2.2, t, ?_, ?_, g⟩
      · unfold ρOf
        rw [List.find?_cons, decide_eq_true h]
        rfl
      · rw [valV_pos (by rw [e, h]), e2]
    · have e3 : valV (kv :: kvs) (.inr x : Key) = valV kvs (.inr x) := valV_neg (fun z => h (by rw [e] at z; exact Sum.inr.inj z))
      have e4 : ρOf (f :: nl) x = ρOf nl x := by
        unfold ρOf
        rw [List.find?_cons, decide_eq_false h]
      rw [e3, e4]
      exact Nms.find r
theorem Nms.ok {H : Hp} {kvs : List (Key × V)} {nl : List (Str × Int × Nat)} (h : Nms H kvs nl) : NmOk H kvs (ρOf nl) := fun x v n e => by
  rcases h.find (x := x) with ⟨e1, _⟩ | ⟨v', n', t, e1, e2, e3⟩
  · rw [e1] at e
    cases e
  · rw [e1] at e
    cases e
    exact ⟨t, e2, e3⟩
theorem Nms.none {H : Hp} {kvs : List (Key × V)} {nl : List (Str × Int × Nat)} {x : Str} (h : Nms H kvs nl) (e : ρOf nl x = Option.none) : valV kvs (.inr x : Key) = Option.none := by
  rcases h.find (x := x) with ⟨_, e1⟩ | ⟨v', n', t, e1, _⟩
  · exact e1
  · rw [e1] at e
    cases e
/-! ### a sight -/
def sgFs (fd nm ou gv : Addr) : List (Str × V) := [("fed", .ref fd), ("names", .ref nm), ("outs", .ref ou), ("given", .ref gv)]
structure SgAt (K : PySem.W.Frag) (H : Hp) (sg fd nm gv : Addr) (ws : List Int) (nl gl : List (Str × Int × Nat)) : Prop where
  ob : ∃ dx ou, H sg = some (.ins (ga K "Sight") dx (sgFs fd nm ou gv))
  hf : H fd = some (.lst (ws.map V.int))
  hn : ∃ kvs, H nm = some (.dK kvs) ∧ Nms H kvs nl
  hg : ∃ kvs, H gv = some (.dK kvs) ∧ Nms H kvs gl
  d1 : nm ≠ gv
theorem SgAt.same {K : PySem.W.Frag} {H H' : Hp} {sg fd nm gv : Addr} {ws : List Int} {nl gl : List (Str × Int × Nat)} (s : Same H H') (h : SgAt K H sg fd nm gv ws nl gl) : SgAt K H' sg fd nm gv ws nl gl := by
  obtain ⟨⟨dx, ou, h1⟩, h2, ⟨k1, h3, h4⟩, ⟨k2, h5, h6⟩, d⟩ := h
  exact ⟨⟨dx, ou, s _ _ h1⟩, s _ _ h2, ⟨k1, s _ _ h3, h4.tups (same_tups s)⟩, ⟨k2, s _ _ h5, h6.tups (same_tups s)⟩, d⟩
/-- what a row does at a beat -/
inductive PlOk : List Int → List (Str × Int × Nat) → List (Str × Int × Nat) → Rw → List Int → List (Str × Int × Nat) → List (Str × Int × Nat) → Prop where
  | inn {a : Int} {ws : List Int} {nl gl : List (Str × Int × Nat)} {x : Str} {n : Nat} (h : ρOf nl x = none) : PlOk (a :: ws) nl gl (.inn x n) ws (nl ++ [(x, a, n)]) gl
  | out {ws : List Int} {nl gl : List (Str × Int × Nat)} {x : Str} {e : Ex} {a : Int} {n : Nat} (h : Vl (ρOf nl) e a n) (hd : e.dep < 4) (hx : ρOf gl x = none) : PlOk ws nl gl (.out x e) ws nl (gl ++ [(x, a, n)])
def spSightInit (K : PySem.W.Frag) : Sp := fun vs H Q _ => ∃ (sg dx fl : Addr) (ws : List Int), vs = [.ref sg, .ref fl] ∧ H sg = some (.ins (ga K "Sight") dx []) ∧ H fl = some (.lst (ws.map V.int)) ∧
  ∀ H' fd nm gv, SgAt K H' sg fd nm gv ws [] [] → H fd = none → H nm = none → H gv = none → (∀ b o, H b = some o → b ≠ sg → H' b = some o) → Q .non H'
def spRowPl (K : PySem.W.Frag) : Sp := fun vs H Q _ => ∃ (un sg fd nm gv : Addr) (ws ws' : List Int) (nl gl nl' gl' : List (Str × Int × Nat)) (r : Rw) (v : V), vs = [.ref un, .ref sg, v] ∧ SgAt K H sg fd nm gv ws nl gl ∧ RwAt H r v ∧ PlOk ws nl gl r ws' nl' gl' ∧
  nl.length ≤ 100 ∧ gl.length ≤ 100 ∧ ∀ H', SgAt K H' sg fd nm gv ws' nl' gl' → Stp H H' nm fd gv → Q .non H'
structure Pls where
  ws : Nat → List Int
  nl : Nat → List (Str × Int × Nat)
  gl : Nat → List (Str × Int × Nat)
structure Pls.Ok (S : Pls) (ws : List Int) (rows : List Rw) : Prop where
  w0 : S.ws 0 = ws
  n0 : S.nl 0 = []
  g0 : S.gl 0 = []
  st : ∀ i r, rows[i]? = some r → PlOk (S.ws i) (S.nl i) (S.gl i) r (S.ws (i + 1)) (S.nl (i + 1)) (S.gl (i + 1))
  z1 : ∀ i, i < rows.length → (S.nl i).length ≤ 100
  z2 : ∀ i, i < rows.length → (S.gl i).length ≤ 100
def spPlayed (K : PySem.W.Frag) : Sp := fun vs H Q _ => ∃ (un md fl : Addr) (ws : List Int) (rows : List Rw) (S : Pls), vs = [.ref un, .ref fl] ∧ UnAt K H un md ∧ MdAt K H md rows ∧ H fl = some (.lst (ws.map V.int)) ∧ S.Ok ws rows ∧
  ∀ H' g kvs, Same H H' → H' g = some (.dK kvs) → Nms H' kvs (S.gl rows.length) → Q (.ref g) H'
def spMoved (K : PySem.W.Frag) : Sp := fun vs H Q _ => ∃ (un md : Addr), vs = [.ref un] ∧ UnAt K H un md ∧ ∀ H', Same H H' → Q .non H'
def spHeldIn (K : PySem.W.Frag) : Sp := fun vs H Q _ => ∃ (un md p : Addr), vs = [.ref un, .ref p] ∧ UnAt K H un md ∧ ∀ H' l, Same H H' → H' l = some (.lst []) → Q (.ref l) H'
def tNeverE : TE := fun _ _ _ => False
theorem pe_never {X : Cx} {e : Expr} : PE X e tNeverE := ⟨fun _ _ _ _ _ _ h => False.elim h⟩
section
variable {P : Program} {w : World} {K : PySem.W.Frag} {mg : Str → Option Value} {base : Heap}
/-! ### Unit.__init__ -/
theorem ok_Unit_init (T : Tx K mg) : FnOk P w K mg base CX0 1 (ma K (ga K "Unit") "__init__") (fda K (ma K (ga K "Unit") "__init__")) ["self", "known", "module"] (spUnitInit K) := by
  refine T.Unit_init.fn.ok sc_Unit_init (fun vs H Q E h => ?_) (fun cdv A outer s H vs Q E hr h => ?_)
  · obtain ⟨_, _, _, _, _, rfl, _⟩ := h
    rfl
  · obtain ⟨un, dx, kn, md, rows, rfl, hp, hM, q⟩ := h
    refine ⟨_, pss_cons (ps_fld (pv 0) (pv 2) rfl) <| pss_cons (ps_fld (pv 0) pe_dnewK rfl) <| pss_cons (ps_fld (pv 0) pe_dnewK rfl) <| pss_cons (ps_fld (pv 0) pe_dnewK rfl) <|
      pss_one (ps_for PassesOwn.never rfl (pi_tup (pe_fld (pv 2) rfl)) (pg_name (i := 3) sc_Unit_init.nd rfl (.inl rfl)) (pss_cons (ps_if (pt_cmpR op_eq (ixT (pv 3)) pe_str (nomark _)) pss_never pss_nil) <| pss_one (ps_if (pt_cmpR op_eq (ixT (pv 3)) pe_str (nomark _)) pss_never pss_nil))), ?_⟩
    obtain ⟨dm, tr, vr, hm1, hm2, hm3, hm4⟩ := hM
    refine ⟨_, rfl, _, rfl, un, _, dx, _, rfl, hp, T.c_Unit.cl, T.n_Unit_module, (by show 0 < 1000; decide), ?_⟩
    intro h1 hh1
    have n1 : un ≠ h1 := ne_of_none upd_same hh1
    refine ⟨_, rfl, un, _, dx, _, rfl, (upd_ne n1).trans upd_same, T.c_Unit.cl, T.n_Unit_holding, (by show 1 < 1000; decide), ?_⟩
    intro h2 hh2
    have n2 : un ≠ h2 := ne_of_none upd_same hh2
    refine ⟨_, rfl, un, _, dx, _, rfl, (upd_ne n2).trans upd_same, T.c_Unit.cl, T.n_Unit_later, (by show 2 < 1000; decide), ?_⟩
    intro h3 hh3
    have n3 : un ≠ h3 := ne_of_none upd_same hh3
    refine ⟨_, rfl, un, _, dx, _, rfl, (upd_ne n3).trans upd_same, T.c_Unit.cl, T.n_Unit_used, (by show 3 < 1000; decide), ?_⟩
    rw [upd_ne n1.symm] at hh1
    rw [upd_ne n2.symm] at hh2
    rw [upd_ne n3.symm] at hh3
    have m1 : h1 ≠ h2 := ne_of_none upd_same hh2
    rw [upd_ne m1.symm, upd_ne n2.symm] at hh2
    have m2 : h2 ≠ h3 := ne_of_none upd_same hh3
    rw [upd_ne m2.symm, upd_ne n3.symm] at hh3
    have m3 : h1 ≠ h3 := ne_of_none upd_same hh3
    rw [upd_ne m3.symm, upd_ne n3.symm] at hh3
    have keep : ∀ b o, H b = some o → b ≠ un → upd (upd (upd (upd (upd (upd (upd H un (.ins (ga K "Unit") dx (putF "module" (.ref md) []))) h1 (.dK [])) un (.ins (ga K "Unit") dx (putF "holding" (.ref h1) (putF "module" (.ref md) [])))) h2 (.dK [])) un (.ins (ga K "Unit") dx (putF "later" (.ref h2) (putF "holding" (.ref h1) (putF "module" (.ref md) []))))) h3 (.dK [])) un (.ins (ga K "Unit") dx (putF "used" (.ref h3) (putF "later" (.ref h2) (putF "holding" (.ref h1) (putF "module" (.ref md) []))))) b = some o := fun b o e hb => by
      rw [upd_ne hb, upd_ne (ne_of_none e hh3), upd_ne hb, upd_ne (ne_of_none e hh2), upd_ne hb, upd_ne (ne_of_none e hh1), upd_ne hb]
      exact e
    have nmu : md ≠ un := ne_of hm1 hp (fun z => by
      injection z with z1 z2 z3
      cases z3)
    have ntu : tr ≠ un := ne_of hm2 hp (by intro z; cases z)
    refine ⟨_, rfl, md, _, dm, _, _, rfl, keep _ _ hm1 nmu, T.c_Module.cl, T.n_Module_rows, rfl, tr, rfl, ⟨vr, SqT.of (keep _ _ hm2 ntu)⟩, ?_⟩
    refine for_tup (K := K) (a := tr) (xs := vr) (fun i σ H' => (∃ z, σ = [some (.ref un), some (.ref kn), some (.ref md), z]) ∧ H' = _) ⟨⟨none, rfl⟩, rfl⟩ (fun i σ H' _ ⟨_, e⟩ => by rw [e]; exact SqT.of (keep _ _ hm2 ntu)) ?_ ?_
    · rintro i y σ H' hy ⟨⟨z, rfl⟩, rfl⟩
      obtain ⟨r, hr1, hr2⟩ := paired_get hm3 hy
      cases r with
      | inn x n =>
        obtain ⟨p, rfl, hp2⟩ := hr2
        have hp3 := keep _ _ hp2 (ne_of hp2 hp (by intro z; cases z))
        exact ifx_ne (K := K) rfl hp3 (by decide +kernel) (ifx_ne (K := K) rfl hp3 (by decide +kernel) ⟨⟨_, rfl⟩, rfl⟩)
      | out x e =>
        obtain ⟨p, u, rfl, hp2, _⟩ := hr2
        have hp3 := keep _ _ hp2 (ne_of hp2 hp (by intro z; cases z))
        exact ifx_ne (K := K) rfl hp3 (by decide +kernel) (ifx_ne (K := K) rfl hp3 (by decide +kernel) ⟨⟨_, rfl⟩, rfl⟩)
    · rintro σ H' ⟨⟨z, rfl⟩, rfl⟩
      refine q _ ⟨dx, h1, h2, h3, upd_same, ?_, ?_, ?_⟩ keep
      · rw [upd_ne n1.symm, upd_ne m3, upd_ne n1.symm, upd_ne m1, upd_ne n1.symm, upd_same]
      · rw [upd_ne n2.symm, upd_ne m2, upd_ne n2.symm, upd_same]
      · rw [upd_ne n3.symm, upd_same]
/-! ### Sight.__init__ -/
theorem ok_Sight_init (T : Tx K mg) : FnOk P w K mg base CX0 1 (ma K (ga K "Sight") "__init__") (fda K (ma K (ga K "Sight") "__init__")) ["self", "fed"] (spSightInit K) := by
  refine T.Sight_init.fn.ok sc_Sight_init (fun vs H Q E h => ?_) (fun cdv A outer s H vs Q E hr h => ?_)
  · obtain ⟨_, _, _, _, rfl, _⟩ := h
    rfl
  · obtain ⟨un, dx, fl, ws, rfl, hp, hfl, q⟩ := h
    refine ⟨_, pss_cons (ps_fld (pv 0) (pe_callTy call_list_of (by rfl) T.z_list (by decide +kernel) (pa_cons (pv 1) pa_nil)) rfl) <| pss_cons (ps_fld (pv 0) pe_dnewK rfl) <| pss_cons (ps_fld (pv 0) pe_dnewK rfl) <| pss_one (ps_fld (pv 0) pe_dnewK rfl), ?_⟩
    refine ⟨_, rfl, fl, _, rfl, .inl (SqL.of hfl), fun h0 hh0 => ?_⟩
    have n0 : un ≠ h0 := ne_of_none hp hh0
    refine ⟨_, rfl, un, _, dx, _, rfl, (upd_ne n0).trans hp, T.c_Sight.cl, T.n_Sight_fed, (by show 0 < 1000; decide), ?_⟩
    intro h1 hh1
    have n1 : un ≠ h1 := ne_of_none upd_same hh1
    refine ⟨_, rfl, un, _, dx, _, rfl, (upd_ne n1).trans upd_same, T.c_Sight.cl, T.n_Sight_names, (by show 1 < 1000; decide), ?_⟩
    intro h2 hh2
    have n2 : un ≠ h2 := ne_of_none upd_same hh2
    refine ⟨_, rfl, un, _, dx, _, rfl, (upd_ne n2).trans upd_same, T.c_Sight.cl, T.n_Sight_outs, (by show 2 < 1000; decide), ?_⟩
    intro h3 hh3
    have n3 : un ≠ h3 := ne_of_none upd_same hh3
    refine ⟨_, rfl, un, _, dx, _, rfl, (upd_ne n3).trans upd_same, T.c_Sight.cl, T.n_Sight_given, (by show 3 < 1000; decide), ?_⟩
    rw [upd_ne n1.symm] at hh1
    rw [upd_ne n2.symm] at hh2
    rw [upd_ne n3.symm] at hh3
    have k1 : h0 ≠ h1 := ne_of_none upd_same hh1
    rw [upd_ne k1.symm] at hh1
    have m1 : h1 ≠ h2 := ne_of_none upd_same hh2
    rw [upd_ne m1.symm, upd_ne n2.symm] at hh2
    have k2 : h0 ≠ h2 := ne_of_none upd_same hh2
    rw [upd_ne k2.symm] at hh2
    have m2 : h2 ≠ h3 := ne_of_none upd_same hh3
    rw [upd_ne m2.symm, upd_ne n3.symm] at hh3
    have m3 : h1 ≠ h3 := ne_of_none upd_same hh3
    rw [upd_ne m3.symm, upd_ne n3.symm] at hh3
    have k3 : h0 ≠ h3 := ne_of_none upd_same hh3
    rw [upd_ne k3.symm] at hh3
    refine q _ h0 h1 h3 ⟨⟨dx, h2, upd_same⟩, ?_, ⟨[], ?_, .nil⟩, ⟨[], ?_, .nil⟩, m3⟩ hh0 hh1 hh3 fun b o e hb => ?_
    · rw [upd_ne n0.symm, upd_ne k3, upd_ne n0.symm, upd_ne k2, upd_ne n0.symm, upd_ne k1, upd_ne n0.symm, upd_same]
    · rw [upd_ne n1.symm, upd_ne m3, upd_ne n1.symm, upd_ne m1, upd_ne n1.symm, upd_same]
    · rw [upd_ne n3.symm, upd_same]
    · rw [upd_ne hb, upd_ne (ne_of_none e hh3), upd_ne hb, upd_ne (ne_of_none e hh2), upd_ne hb, upd_ne (ne_of_none e hh1), upd_ne hb, upd_ne (ne_of_none e hh0)]
      exact e
end
end K11
set_option maxHeartbeats 4000000
/-! row_played, unit_played, unit_moved, held_in -/
namespace K11
open PySem PySem.Spec PyProof.Rows L2 He
theorem if_neE {i : Nat} {a b : Str} {t u : TS} {D : Ends} {σ : L2.St} {H : Hp} (hs : σ[i]? = some (some (.str a))) (h : a ≠ b) (q : u D σ H) : tIfS (tTest (tOp rEq (tVar i) (tC (.str b)))) t u D σ H := by
  refine ⟨_, hs, rfl, _, rfl, ?_⟩
  have e : decide (V.str a = V.str b) = false := decide_eq_false fun z => h (V.str.inj z)
  rw [e]
  exact iteF q
section
variable {P : Program} {w : World} {K : PySem.W.Frag} {mg : Str → Option Value} {base : Heap}
/-! ### row_played -/
theorem ok_row_played (T : Tx K mg) : FnOk P w K mg base CX0 7 (ga K "row_played") (fda K (ga K "row_played")) ["unit", "sight", "row"] (spRowPl K) := by
  have GE : FnOk P w K mg base CX0 6 _ _ _ _ := ok_expr_value T 4
  refine T.row_played.fn.ok sc_row_played (fun vs H Q E h => ?_) (fun cdv A outer s H vs Q E hr h => ?_)
  · obtain ⟨_, _, _, _, _, _, _, _, _, _, _, _, _, rfl, _⟩ := h
    rfl
  · obtain ⟨un, sg, fd, nm, gv, ws, ws', nl, gl, nl', gl', r, v, rfl, hS, hR, hok, hz1, hz2, q⟩ := h
    have hu := hu_of hr
    refine ⟨_, pss_cons (ps_set (i := 3) sc_row_played.nd rfl (.inl rfl) (ixT (pv 2))) <|
      pss_cons (ps_set (i := 4) sc_row_played.nd rfl (.inl rfl) (ixT (pv 2))) <|
      pss_one (ps_if (pt_cmpR op_eq (pv 3) pe_str (nomark _))
        (pss_one (ps_dput hu (pe_fld (pv 1) rfl) (pv 4) (pe_tup (pa_cons (pe_bm PySem.F.plainAttrs_list PySem.F.slot_list_pop PySem.F.type_list_pop mt_popAt (pe_fld (pv 1) rfl) (pa_cons pe_int pa_nil)) (pa_cons (ixT (pv 2)) pa_nil))) rfl))
        (pss_one (ps_if (pt_cmpR op_eq (pv 3) pe_str (nomark _)) pss_never
        (pss_one (ps_if (pt_cmpR op_eq (pv 3) pe_str (nomark _)) pss_never
        (pss_one (ps_if (pt_cmpR op_eq (pv 3) pe_str (nomark _)) pss_never
        (pss_one (ps_if (pt_cmpR op_eq (pv 3) pe_str (nomark _)) pss_never
        (pss_one (ps_dput hu (pe_fld (pv 1) rfl) (pv 4) (pe_call GE hr (by rfl) T.expr_value.gl T.expr_value.fn.kp T.expr_value.bd .nil pass0 (pa_cons (pv 1) (pa_cons (ixT (pv 2)) pa_nil))) rfl))))))))))), ?_⟩
    obtain ⟨dx, ou, h1⟩ := hS.ob
    obtain ⟨kn, hn1, hn2⟩ := hS.hn
    obtain ⟨kg, hg1, hg2⟩ := hS.hg
    have hf := hS.hf
    have ln := paired_len hn2
    have lg := paired_len hg2
    cases hok with
    | @inn a ws' _ _ x n hx =>
      obtain ⟨p, rfl, hp⟩ := hR
      have hvn := hn2.none hx
      refine ⟨_, rfl, p, _, _, _, rfl, rfl, SqT.of hp, atI_nat (j := 0) rfl, _, rfl, p, _, _, _, rfl, rfl, SqT.of hp, atI_nat (j := 1) rfl, if_eq rfl ?_⟩
      refine ⟨_, rfl, sg, _, dx, _, _, rfl, h1, T.c_Sight.cl, T.n_Sight_fed, rfl, .inl ⟨rfl, _, SqL.of hf⟩, fd, _, 0, 0, .int a, rfl, rfl, hf, by decide, by decide, ?_, rfl, ?_⟩
      · show seqIndex? 0 ((a :: ws').map V.int).length = some 0
        simp [seqIndex?]
      have nfp : p ≠ fd := ne_of hp hf (by intro z; cases z)
      refine ⟨_, rfl, p, _, _, _, rfl, rfl, SqT.of ((upd_ne nfp).trans hp), atI_nat (j := 2) rfl, show 2 ≤ sizeLine by decide, fun t ht => ?_⟩
      have ntf : t ≠ fd := fun z => by rw [z, upd_same] at ht; cases ht
      have ht0 : H t = none := by rw [upd_ne ntf] at ht; exact ht
      have nst : sg ≠ t := ne_of_none h1 ht0
      have nsf : sg ≠ fd := ne_of h1 hf (by intro z; cases z)
      have nnf : nm ≠ fd := ne_of hn1 hf (by intro z; cases z)
      have nnt : nm ≠ t := ne_of_none hn1 ht0
      have nsn : sg ≠ nm := ne_of h1 hn1 (by intro z; cases z)
      refine ⟨_, rfl, sg, _, dx, _, _, rfl, (upd_ne nst).trans ((upd_ne nsf).trans h1), T.c_Sight.cl, T.n_Sight_names, rfl, _, rfl, nm, _, rfl, DPut.k (k := Sum.inr x) ((upd_ne nnt).trans ((upd_ne nnf).trans hn1)) (small1000 (by omega)), ?_⟩
      rw [putK_new _ hvn]
      have keep : ∀ b o, H b = some o → b ≠ nm → b ≠ fd → upd (upd (upd H fd (.lst (((a :: ws').map V.int).eraseIdx 0))) t (.tup [.int a, .int n])) nm (.dK (kn ++ [(Sum.inr x, V.ref t)])) b = some o := fun b o e b1 b2 => by
        rw [upd_ne b1, upd_ne (ne_of_none e ht0), upd_ne b2]
        exact e
      have tp : Tups H (upd (upd (upd H fd (.lst (((a :: ws').map V.int).eraseIdx 0))) t (.tup [.int a, .int n])) nm (.dK (kn ++ [(Sum.inr x, V.ref t)]))) := fun b xs e => keep b _ e (ne_of e hn1 (by intro z; cases z)) (ne_of e hf (by intro z; cases z))
      refine q _ ⟨⟨dx, ou, keep _ _ h1 nsn nsf⟩, ?_, ⟨_, upd_same, Paired.snoc (hn2.tups tp) ⟨rfl, t, rfl, ?_⟩⟩, ⟨kg, keep _ _ hg1 hS.d1.symm (ne_of hg1 hf (by intro z; cases z)), hg2.tups tp⟩, hS.d1⟩ fun b o e b1 b2 b3 => keep b o e b1 b2
      · rw [upd_ne nnf.symm, upd_ne ntf.symm, upd_same]
        rfl
      · rw [upd_ne nnt.symm, upd_same]
    | @out _ _ _ x e a n hv hd hx =>
      obtain ⟨p, u, rfl, hp, hE⟩ := hR
      have hvn := hg2.none hx
      refine ⟨_, rfl, p, _, _, _, rfl, rfl, SqT.of hp, atI_nat (j := 0) rfl, _, rfl, p, _, _, _, rfl, rfl, SqT.of hp, atI_nat (j := 1) rfl, if_neE rfl (by decide +kernel) <| if_neE rfl (by decide +kernel) <| if_neE rfl (by decide +kernel) <| if_neE rfl (by decide +kernel) <| if_neE rfl (by decide +kernel) ?_⟩
      refine ⟨_, rfl, _, rfl, p, _, _, _, rfl, rfl, SqT.of hp, atI_nat (j := 2) rfl, sg, nm, kn, ρOf nl, u, e, a, n, rfl, ⟨dx, _, h1, rfl, hn1⟩, hn2.ok, hE, hv, hd, fun H1 t s1 ht => ?_⟩
      refine ⟨_, rfl, sg, _, dx, _, _, rfl, s1 _ _ h1, T.c_Sight.cl, T.n_Sight_given, rfl, _, rfl, gv, _, rfl, DPut.k (k := Sum.inr x) (s1 _ _ hg1) (small1000 (by omega)), ?_⟩
      rw [putK_new _ hvn]
      have keep : ∀ b o, H1 b = some o → b ≠ gv → upd H1 gv (.dK (kg ++ [(Sum.inr x, V.ref t)])) b = some o := fun b o e b1 => (upd_ne b1).trans e
      have tp : Tups H1 (upd H1 gv (.dK (kg ++ [(Sum.inr x, V.ref t)]))) := fun b xs e => keep b _ e (ne_of e (s1 _ _ hg1) (by intro z; cases z))
      refine q _ ⟨⟨dx, ou, keep _ _ (s1 _ _ h1) (ne_of h1 hg1 (by intro z; cases z))⟩, keep _ _ (s1 _ _ hf) (ne_of hf hg1 (by intro z; cases z)), ⟨kn, keep _ _ (s1 _ _ hn1) hS.d1, (hn2.tups (same_tups s1)).tups tp⟩, ⟨_, upd_same, Paired.snoc ((hg2.tups (same_tups s1)).tups tp) ⟨rfl, t, rfl, tp _ _ ht⟩⟩, hS.d1⟩ fun b o e b1 b2 b3 => keep b o (s1 _ _ e) b3
/-! ### unit_played -/
theorem ok_unit_played (T : Tx K mg) : FnOk P w K mg base CX0 8 (ga K "unit_played") (fda K (ga K "unit_played")) ["unit", "fed"] (spPlayed K) := by
  have GS : FnOk P w K mg base CX0 1 _ _ _ _ := ok_Sight_init T
  have GR : FnOk P w K mg base CX0 7 _ _ _ _ := ok_row_played T
  refine T.unit_played.fn.ok sc_unit_played (fun vs H Q E h => ?_) (fun cdv A outer s H vs Q E hr h => ?_)
  · obtain ⟨_, _, _, _, _, _, rfl, _⟩ := h
    rfl
  · obtain ⟨un, md, fl, ws, rows, S, rfl, hU, hM, hfl, hS, q⟩ := h
    have hr2 : Room 2 _ := hr.mono (by decide)
    refine ⟨_, pss_cons (ps_set (i := 2) sc_unit_played.nd rfl (.inl rfl) (pe_make T.c_Sight.mkr GS hr2 (by rfl) T.c_Sight.gl T.Sight_init.bd .nil pass0 (pa_cons (pv 1) pa_nil))) <|
      pss_cons (ps_for PassesOwn.never rfl (pi_tup (pe_fld (pe_fld (pv 0) rfl) rfl)) (pg_name (i := 3) sc_unit_played.nd rfl (.inl rfl)) (pss_one (ps_expr (pe_call GR hr (by rfl) T.row_played.gl T.row_played.fn.kp T.row_played.bd .nil pass0 (pa_cons (pv 0) (pa_cons (pv 2) (pa_cons (pv 3) pa_nil))))))) <|
      pss_one (ps_ret (pe_fld (pv 2) rfl)), ?_⟩
    obtain ⟨du, h0, l0, u0, hu1, hu2, hu3, hu4⟩ := hU
    obtain ⟨dm, tr, vr, hm1, hm2, hm3, hm4⟩ := hM
    refine ⟨_, rfl, fun sg dx nsg ndx nex => ?_⟩
    have s0 : Same H (upd (upd H dx (.own sg)) sg (.ins (ga K "Sight") dx [])) := fun b o e => by
      rw [upd_ne (ne_of_none e nsg), upd_ne (ne_of_none e ndx)]
      exact e
    refine ⟨sg, dx, fl, ws, rfl, upd_same, s0 _ _ hfl, fun H1 fd nm gv hG nfd nnm ngv kp => ⟨rfl, ?_⟩⟩
    have s1 : Same H H1 := fun b o e => kp b o (s0 b o e) (ne_of_none e nsg)
    have ffd : H fd = none := s0.free nfd
    have fnm : H nm = none := s0.free nnm
    have fgv : H gv = none := s0.free ngv
    have hl := paired_len hm3
    refine ⟨_, rfl, un, _, du, _, _, rfl, s1 _ _ hu1, T.c_Unit.cl, T.n_Unit_module, rfl, md, _, dm, _, _, rfl, s1 _ _ hm1, T.c_Module.cl, T.n_Module_rows, rfl, tr, rfl, ⟨vr, SqT.of (s1 _ _ hm2)⟩, ?_⟩
    refine for_tup (K := K) (a := tr) (xs := vr) (fun i σ H' => ∃ z, σ = [some (.ref un), some (.ref fl), some (.ref sg), z] ∧ SgAt K H' sg fd nm gv (S.ws i) (S.nl i) (S.gl i) ∧ Same H H') ⟨none, rfl, by rw [hS.w0, hS.n0, hS.g0]; exact hG, s1⟩ (fun i σ H' _ ⟨_, _, _, s2⟩ => SqT.of (s2 _ _ hm2)) ?_ ?_
    · rintro i y σ H2 hy ⟨z, rfl, hG2, s2⟩
      obtain ⟨r, hr1, hr2⟩ := paired_get hm3 hy
      have hi : i < rows.length := (List.getElem?_eq_some_iff.mp hr1).1
      refine ⟨_, rfl, _, rfl, _, rfl, un, sg, fd, nm, gv, _, _, _, _, _, _, r, y, rfl, hG2, hr2.tups (same_tups s2), hS.st i r hr1, hS.z1 i hi, hS.z2 i hi, fun H3 hG3 st3 => ?_⟩
      exact ⟨_, rfl, hG3, fun b o e => st3 b o (s2 _ _ e) (ne_of_none e fnm) (ne_of_none e ffd) (ne_of_none e fgv)⟩
    · rintro σ H2 ⟨z, rfl, hG2, s2⟩
      rw [hl] at hG2
      obtain ⟨dx2, ou2, o1⟩ := hG2.ob
      obtain ⟨kg, g1, g2⟩ := hG2.hg
      exact ⟨_, rfl, sg, _, dx2, _, _, rfl, o1, T.c_Sight.cl, T.n_Sight_given, rfl, q H2 gv kg s2 g1 g2⟩
/-! ### unit_moved -/
theorem ok_unit_moved (T : Tx K mg) : FnOk P w K mg base CX0 1 (ga K "unit_moved") (fda K (ga K "unit_moved")) ["unit"] (spMoved K) := by
  refine T.unit_moved.fn.ok sc_unit_moved (fun vs H Q E h => ?_) (fun cdv A outer s H vs Q E hr h => ?_)
  · obtain ⟨_, _, rfl, _⟩ := h
    rfl
  · obtain ⟨un, md, rfl, ⟨du, h0, l0, u0, hu1, hu2, hu3, hu4⟩, q⟩ := h
    refine ⟨_, pss_cons (ps_for PassesOwn.never rfl (pi_list (pe_callTy (call_list_dK rfl) (by rfl) T.z_list (by decide +kernel) (pa_cons (pe_fld (pv 0) rfl) pa_nil))) (pg_name (i := 1) sc_unit_moved.nd rfl (.inl rfl)) pss_never) <|
      pss_one (ps_lock (ps_for PassesOwn.never rfl (pi_keys (pe_fld (pv 0) rfl)) (pg_name (i := 1) sc_unit_moved.nd rfl (.inl rfl)) pss_never)), ?_⟩
    refine ⟨_, rfl, un, _, du, _, _, rfl, hu1, T.c_Unit.cl, T.n_Unit_holding, rfl, h0, _, rfl, hu2, fun l hl => ?_⟩
    have s1 : Same H (upd H l (.lst [])) := same_upd hl
    refine ⟨l, rfl, ⟨[], SqL.of upd_same⟩, ?_⟩
    refine for_list (K := K) (a := l) (xs := []) (fun i σ H' => (∃ z, σ = [some (.ref un), z]) ∧ H' = upd H l (.lst [])) ⟨⟨none, rfl⟩, rfl⟩ (fun i σ H' _ ⟨_, e⟩ => by rw [e]; exact SqL.of upd_same) (fun i x σ H' h _ => by cases h) ?_
    rintro σ H' ⟨⟨z, rfl⟩, rfl⟩
    refine ⟨u0, .dK [], s1 _ _ hu4, trivial, fun od => ?_⟩
    have nuu : un ≠ u0 := ne_of hu1 hu4 (by intro z; cases z)
    refine ⟨_, rfl, un, _, du, _, _, rfl, (upd_ne nuu).trans (s1 _ _ hu1), T.c_Unit.cl, T.n_Unit_used, rfl, u0, od, rfl, .inl ⟨[], upd_same, ?_⟩⟩
    refine for_it (walk_keys (kvs := [])) (fun i σ H' => H' = upd (upd H l (.lst [])) u0 (.frz od (.dK []))) rfl (fun i σ H' _ e => by rw [e]; exact upd_same) (fun i x σ H2 H' h => absurd h (Nat.not_lt_zero _)) ?_
    rintro σ H' rfl
    refine ⟨upd_same, ?_⟩
    rw [upd_upd, upd_id (s1 _ _ hu4)]
    exact q _ s1
/-! ### held_in -/
theorem ok_held_in (T : Tx K mg) : FnOk P w K mg base CX0 1 (ga K "held_in") (fda K (ga K "held_in")) ["unit", "path"] (spHeldIn K) := by
  refine T.held_in.fn.ok sc_held_in (fun vs H Q E h => ?_) (fun cdv A outer s H vs Q E hr h => ?_)
  · obtain ⟨_, _, _, rfl, _⟩ := h
    rfl
  · obtain ⟨un, md, p, rfl, ⟨du, h0, l0, u0, hu1, hu2, hu3, hu4⟩, q⟩ := h
    refine ⟨_, pss_cons (ps_lock (ps_setLc (i := 2) (own := [("name", 3)]) (g := gName 3) (tt := tYes) (te := tNeverE) rfl sc_held_in.nd rfl rfl (sw_true rfl rfl rfl (by decide +kernel)) (pi_keys (pe_fld (pv 0) rfl))
          (blkOk_by (N := ["unit", "path", "found", "name"]) (sc := defScope s_held_in) (by decide +kernel)) (fun _ _ _ _ _ => pg_name (i := 3) sc_held_in.nd rfl (Or.inl rfl)) (fun _ _ _ _ _ => pts_nil) (fun _ _ _ _ _ => pe_never))) <|
      pss_cons (ps_lock (ps_for PassesOwn.never rfl (pi_keys (pe_fld (pv 0) rfl)) (pg_name (i := 3) sc_held_in.nd rfl (.inl rfl)) pss_never)) <|
      pss_one (ps_ret (pv 2)), ?_⟩
    have nuh : un ≠ h0 := ne_of hu1 hu2 (by intro z; cases z)
    refine ⟨h0, .dK [], hu2, trivial, fun od => ?_⟩
    refine ⟨_, rfl, un, _, du, _, _, rfl, (upd_ne nuh).trans hu1, T.c_Unit.cl, T.n_Unit_holding, rfl, h0, od, rfl, .inl ⟨[], upd_same, fun D hD => ?_⟩⟩
    have hD0 : H D = none := by
      have n : D ≠ h0 := fun z => by rw [z, upd_same] at hD; cases hD
      rw [upd_ne n] at hD
      exact hD
    have nDh : D ≠ h0 := fun z => by rw [z, upd_same] at hD; cases hD
    refine lc_it (walk_keys (kvs := [])) (fun i H' => H' = upd (upd H h0 (.frz od (.dK []))) D (.lst [])) rfl (fun i H' _ e => by rw [e, upd_ne nDh.symm]; exact upd_same) (fun i x H2 H' h => absurd h (Nat.not_lt_zero _)) ?_
    rintro H' rfl
    refine ⟨(upd_ne nDh.symm).trans upd_same, ?_⟩
    have e1 : upd (upd (upd H h0 (.frz od (.dK []))) D (.lst [])) h0 (.dK []) = upd H D (.lst []) := by
      funext b
      by_cases hb : b = h0
      · subst hb
        rw [upd_same, upd_ne nDh.symm]
        exact hu2.symm
      · rw [upd_ne hb]
        by_cases hb2 : b = D
        · subst hb2
          rw [upd_same, upd_same]
        · rw [upd_ne hb2, upd_ne hb2, upd_ne hb]
    rw [e1]
    have s1 : Same H (upd H D (.lst [])) := same_upd hD0
    refine ⟨u0, .dK [], s1 _ _ hu4, trivial, fun od2 => ?_⟩
    have nuu : un ≠ u0 := ne_of hu1 hu4 (by intro z; cases z)
    refine ⟨_, rfl, un, _, du, _, _, rfl, (upd_ne nuu).trans (s1 _ _ hu1), T.c_Unit.cl, T.n_Unit_used, rfl, u0, od2, rfl, .inl ⟨[], upd_same, ?_⟩⟩
    refine for_it (walk_keys (kvs := [])) (fun i σ H' => H' = upd (upd H D (.lst [])) u0 (.frz od2 (.dK [])) ∧ σ[2]? = some (some (.ref D))) ⟨rfl, rfl⟩ (fun i σ H' _ e => by rw [e.1]; exact upd_same) (fun i x σ H2 H' h => absurd h (Nat.not_lt_zero _)) ?_
    rintro σ H' ⟨rfl, hσ⟩
    refine ⟨upd_same, ?_⟩
    rw [upd_upd, upd_id (s1 _ _ hu4)]
    exact ⟨_, hσ, q _ D s1 upd_same⟩
end
end K11
set_option maxHeartbeats 4000000
/-! Module.__init__, Scene: __init__, beat, held -/
namespace K11
open PySem PySem.Spec PyProof.Rows L2 He
def scnFs (li un : Addr) : List (Str × V) := [("ins", .ref li), ("unit", .ref un)]
def SceneAt (K : PySem.W.Frag) (H : Hp) (sn md : Addr) (fi : List (Str × Nat)) : Prop := ∃ dx li un vi, H sn = some (.ins (ga K "Scene") dx (scnFs li un)) ∧ H li = some (.lst vi) ∧ Fcs H vi fi ∧ UnAt K H un md
theorem SceneAt.same {K : PySem.W.Frag} {H H' : Hp} {sn md : Addr} {fi : List (Str × Nat)} (s : Same H H') (h : SceneAt K H sn md fi) : SceneAt K H' sn md fi := by
  obtain ⟨dx, li, un, vi, h1, h2, h3, h4⟩ := h
  exact ⟨dx, li, un, vi, s _ _ h1, s _ _ h2, h3.tups (same_tups s), h4.same s⟩
def spModInit (K : PySem.W.Frag) : Sp := fun vs H Q _ => ∃ (md dx lr : Addr) (xs : List V), vs = [.ref md, .str "top", .ref lr] ∧ H md = some (.ins (ga K "Module") dx []) ∧ H lr = some (.lst xs) ∧
  ∀ H' tr, H' md = some (.ins (ga K "Module") dx (mdFs tr)) → H' tr = some (.tup xs) → (∀ b o, H b = some o → b ≠ md → H' b = some o) → Q .non H'
def spSceneInit (K : PySem.W.Frag) : Sp := fun vs H Q _ => ∃ (sn dx ml md : Addr) (rows : List Rw) (S : Sts), vs = [.ref sn, .ref ml] ∧ H sn = some (.ins (ga K "Scene") dx []) ∧ H ml = some (.lst [.ref md]) ∧ MdAt K H md rows ∧ S.Ok rows ∧
  ∀ H', SceneAt K H' sn md (S.fi rows.length) → (∀ b o, H b = some o → b ≠ sn → H' b = some o) → Q .non H'
structure RowIn (ws : List Int) (fi : List (Str × Nat)) : Prop where
  len : ws.length = fi.length
  fit : ∀ (i : Nat) (v : Int) (f : Str × Nat), ws[i]? = some v → fi[i]? = some f → 0 ≤ v ∧ v < 2 ^ f.2 ∧ f.2 ≤ 16
def spBeat (K : PySem.W.Frag) : Sp := fun vs H Q _ => ∃ (sn md rl : Addr) (fi : List (Str × Nat)) (ws : List Int) (rows : List Rw) (S : Pls), vs = [.ref sn, .ref rl] ∧ SceneAt K H sn md fi ∧ MdAt K H md rows ∧ H rl = some (.lst (ws.map V.int)) ∧ RowIn ws fi ∧ S.Ok ws rows ∧
  (∀ (i : Nat) (f : Str × Int × Nat), (S.gl rows.length)[i]? = some f → ρOf (S.gl rows.length) f.1 = some f.2) ∧ (S.gl rows.length).length ≤ 100 ∧
  ∀ H' l, Same H H' → H' l = some (.lst ((S.gl rows.length).map fun g => V.int g.2.1)) → Q (.ref l) H'
def spHeld (K : PySem.W.Frag) : Sp := fun vs H Q _ => ∃ (sn md : Addr) (fi : List (Str × Nat)), vs = [.ref sn] ∧ SceneAt K H sn md fi ∧ ∀ H' l, Same H H' → H' l = some (.lst []) → Q (.ref l) H'
section
variable {P : Program} {w : World} {K : PySem.W.Frag} {mg : Str → Option Value} {base : Heap}
/-! ### Module.__init__ -/
theorem ok_Module_init (T : Tx K mg) : FnOk P w K mg base CX0 1 (ma K (ga K "Module") "__init__") (fda K (ma K (ga K "Module") "__init__")) ["self", "name", "rows"] (spModInit K) := by
  refine T.Module_init.fn.ok sc_Module_init (fun vs H Q E h => ?_) (fun cdv A outer s H vs Q E hr h => ?_)
  · obtain ⟨_, _, _, _, rfl, _⟩ := h
    rfl
  · obtain ⟨md, dx, lr, xs, rfl, hp, hl, q⟩ := h
    refine ⟨_, pss_cons (ps_fld (pv 0) (pv 1) rfl) <| pss_one (ps_fld (pv 0) (pe_callTy call_tuple_of (by rfl) T.z_tuple (by decide +kernel) (pa_cons (pv 2) pa_nil)) rfl), ?_⟩
    have nlm : lr ≠ md := ne_of hl hp (by intro z; cases z)
    refine ⟨_, rfl, _, rfl, md, _, dx, _, rfl, hp, T.c_Module.cl, T.n_Module_name, (by show 0 < 1000; decide), ?_⟩
    refine ⟨_, rfl, lr, xs, rfl, .inl ⟨SqL.of ((upd_ne nlm).trans hl), fun tr ht => ?_⟩⟩
    have nmt : md ≠ tr := ne_of_none upd_same ht
    have ht0 : H tr = none := by rw [upd_ne nmt.symm] at ht; exact ht
    refine ⟨_, rfl, md, _, dx, _, rfl, (upd_ne nmt).trans upd_same, T.c_Module.cl, T.n_Module_rows, (by show 1 < 1000; decide), ?_⟩
    refine q _ tr upd_same ?_ fun b o e hb => ?_
    · rw [upd_ne nmt.symm, upd_same]
    · rw [upd_ne hb, upd_ne (ne_of_none e ht0), upd_ne hb]
      exact e
/-! ### Scene.__init__ -/
theorem ok_Scene_init (T : Tx K mg) : FnOk P w K mg base CX0 17 (ma K (ga K "Scene") "__init__") (fda K (ma K (ga K "Scene") "__init__")) ["self", "modules"] (spSceneInit K) := by
  have GF : FnOk P w K mg base CX0 16 _ _ _ _ := ok_faces T
  have GU : FnOk P w K mg base CX0 1 _ _ _ _ := ok_Unit_init T
  refine T.Scene_init.fn.ok sc_Scene_init (fun vs H Q E h => ?_) (fun cdv A outer s H vs Q E hr h => ?_)
  · obtain ⟨_, _, _, _, _, _, rfl, _⟩ := h
    rfl
  · obtain ⟨sn, dx, ml, md, rows, S, rfl, hp, hml, hM, hS, q⟩ := h
    have hu := hu_of hr
    have hr2 : Room 2 _ := hr.mono (by decide)
    refine ⟨_, pss_cons (ps_asg (pe_call GF hr (by rfl) T.faces.gl T.faces.fn.kp T.faces.bd .nil pass0 (pa_cons (pv 1) pa_nil)) (pg_tup rfl (pgs_cons (pg_name (i := 2) sc_Scene_init.nd rfl (.inl rfl)) (pgs_cons (pg_name (i := 3) sc_Scene_init.nd rfl (.inl rfl)) pgs_nil)))) <|
      pss_cons (ps_fld (pv 0) (pv 2) rfl) <|
      pss_cons (ps_set (i := 4) sc_Scene_init.nd rfl (.inl rfl) pe_dnewK) <|
      pss_cons (ps_for PassesOwn.never rfl (pi_list (pv 1)) (pg_name (i := 5) sc_Scene_init.nd rfl (.inl rfl)) (pss_one (ps_dput hu (pv 4) (pe_fld (pv 5) rfl) (pv 5) rfl))) <|
      pss_one (ps_fld (pv 0) (pe_make T.c_Unit.mkr GU hr2 (by rfl) T.c_Unit.gl T.Unit_init.bd .nil pass0 (pa_cons (pv 4) (pa_cons (pe_ix ix_list (pv 1) (pe_un un_neg pe_int) (fun _ _ => rfl)) pa_nil))) rfl), ?_⟩
    refine ⟨_, rfl, ml, md, rows, S, rfl, hml, hM, hS, fun H1 t l1 l2 vi s1 ht hl1 hfc => ?_⟩
    refine ⟨t, _, rfl, SqT.of ht, rfl, _, _, rfl, _, _, rfl, rfl, ?_⟩
    refine ⟨_, rfl, _, rfl, sn, _, dx, _, rfl, s1 _ _ hp, T.c_Scene.cl, T.n_Scene_ins, (by show 0 < 1000; decide), ?_⟩
    -- behind self.ins = ins: all but sn as in H1
    have k2 : ∀ b o, H1 b = some o → b ≠ sn → upd H1 sn (.ins (ga K "Scene") dx (putF "ins" (.ref l1) [])) b = some o := fun b o e h => (upd_ne h).trans e
    have nml : ml ≠ sn := ne_of hml hp (by intro z; cases z)
    intro kn hkn
    have s3 : Same (upd H1 sn (.ins (ga K "Scene") dx (putF "ins" (.ref l1) []))) (upd (upd H1 sn (.ins (ga K "Scene") dx (putF "ins" (.ref l1) []))) kn (.dK [])) := same_upd hkn
    have nsk : sn ≠ kn := ne_of_none upd_same hkn
    have hkn1 : H1 kn = none := by rw [upd_ne nsk.symm] at hkn; exact hkn
    obtain ⟨dm, tr, vr, hm1, hm2, hm3, hm4⟩ := hM
    have nmd : md ≠ sn := ne_of hm1 hp (fun z => by
      injection z with z1 z2 z3
      cases z3)
    -- all but sn and kn as in H1
    refine ⟨_, rfl, ml, rfl, ⟨_, SqL.of (s3 _ _ (k2 _ _ (s1 _ _ hml) nml))⟩, ?_⟩
    refine for_list (K := K) (a := ml) (xs := [V.ref md]) (fun i σ H' => (∃ z, σ = [some (.ref sn), some (.ref ml), some (.ref l1), some (.ref l2), some (.ref kn), z]) ∧ (∃ kv, H' kn = some (.dK kv) ∧ kv.length ≤ i) ∧ H' sn = some (.ins (ga K "Scene") dx (putF "ins" (.ref l1) [])) ∧ ∀ b o, H1 b = some o → b ≠ sn → H' b = some o)
      ⟨⟨none, rfl⟩, ⟨[], upd_same, Nat.le_refl _⟩, s3 _ _ upd_same, fun b o e h => s3 _ _ (k2 _ _ e h)⟩ (fun i σ H' _ ⟨_, _, _, k⟩ => SqL.of (k _ _ (s1 _ _ hml) nml)) ?_ ?_
    · rintro i y σ H2 hi ⟨⟨z, rfl⟩, ⟨kv, hk2, hkl⟩, hsn, k⟩
      have hi1 : i < 1 := (List.getElem?_eq_some_iff.mp hi).1
      have i0 : i = 0 := by omega
      subst i0
      cases hi
      have hm1' := k _ _ (s1 _ _ hm1) nmd
      refine ⟨_, rfl, _, rfl, _, rfl, md, _, dm, _, _, rfl, hm1', T.c_Module.cl, T.n_Module_name, rfl, kn, _, rfl, DPut.k (k := Sum.inr "top") hk2 (small1000 (by omega)), ?_⟩
      have e0 : kv = [] := List.eq_nil_of_length_eq_zero (by omega)
      subst e0
      exact ⟨⟨_, rfl⟩, ⟨_, upd_same, Nat.le_refl _⟩, (upd_ne nsk).trans hsn, fun b o e h => (upd_ne (ne_of_none e hkn1)).trans (k b o e h)⟩
    · rintro σ H2 ⟨⟨z, rfl⟩, ⟨kv, hk2, hkl⟩, hsn, k⟩
      refine ⟨_, rfl, _, rfl, 1, rfl, ml, _, _, _, rfl, rfl, SqL.of (k _ _ (s1 _ _ hml) nml), rfl, fun un du nun ndu neu => ?_⟩
      have s4 : Same H2 (upd (upd H2 du (.own un)) un (.ins (ga K "Unit") du [])) := fun b o e => by
        rw [upd_ne (ne_of_none e nun), upd_ne (ne_of_none e ndu)]
        exact e
      have hM2 : MdAt K H2 md rows := ⟨dm, tr, vr, k _ _ (s1 _ _ hm1) nmd, k _ _ (s1 _ _ hm2) (ne_of hm2 hp (by intro z; cases z)), paired_map (fun v r g => g.tups fun b xs e => k _ _ (s1 _ _ e) (ne_of e hp (by intro z; cases z))) hm3, hm4⟩
      refine ⟨un, du, kn, md, rows, rfl, upd_same, hM2.same s4, fun H3 hU k3 => ⟨rfl, ?_⟩⟩
      have s5 : Same H2 H3 := fun b o e => k3 b o (s4 _ _ e) (ne_of_none e nun)
      refine ⟨_, rfl, sn, _, dx, _, rfl, s5 _ _ hsn, T.c_Scene.cl, T.n_Scene_unit, (by show 1 < 1000; decide), ?_⟩
      have nus : un ≠ sn := fun z => by rw [z, hsn] at nun; cases nun
      have nl1 : l1 ≠ sn := ne_of hl1 (s1 _ _ hp) (by intro z; cases z)
      have k6 : ∀ b o, H3 b = some o → b ≠ sn → upd H3 sn (.ins (ga K "Scene") dx (putF "unit" (.ref un) (putF "ins" (.ref l1) []))) b = some o := fun b o e h => (upd_ne h).trans e
      obtain ⟨du', a1, a2, a3, hu1, hu2, hu3, hu4⟩ := hU
      refine q _ ⟨dx, l1, un, vi, upd_same, k6 _ _ (s5 _ _ (k _ _ hl1 nl1)) nl1, hfc.tups (fun b xs e => k6 _ _ (s5 _ _ (k _ _ e (ne_of e (s1 _ _ hp) (by intro z; cases z)))) (ne_of e (s1 _ _ hp) (by intro z; cases z))), ⟨du', a1, a2, a3, k6 _ _ hu1 nus, k6 _ _ hu2 (ne_of hu2 (s5 _ _ hsn) (by intro z; cases z)), k6 _ _ hu3 (ne_of hu3 (s5 _ _ hsn) (by intro z; cases z)), k6 _ _ hu4 (ne_of hu4 (s5 _ _ hsn) (by intro z; cases z))⟩⟩ fun b o e h => k6 _ _ (s5 _ _ (k _ _ (s1 _ _ e) h)) h
/-! ### beat -/
theorem ok_beat (T : Tx K mg) : FnOk P w K mg base CX0 9 (ma K (ga K "Scene") "beat") (fda K (ma K (ga K "Scene") "beat")) ["self", "row"] (spBeat K) := by
  have GP : FnOk P w K mg base CX0 8 _ _ _ _ := (ok_power_of T).mono (by decide)
  have GU : FnOk P w K mg base CX0 8 _ _ _ _ := ok_unit_played T
  have GM : FnOk P w K mg base CX0 8 _ _ _ _ := (ok_unit_moved T).mono (by decide)
  refine T.Scene_beat.fn.ok sc_Scene_beat (fun vs H Q E h => ?_) (fun cdv A outer s H vs Q E hr h => ?_)
  · obtain ⟨_, _, _, _, _, _, _, rfl, _⟩ := h
    rfl
  · obtain ⟨sn, md, rl, fi, ws, rows, S, rfl, hSc, hM, hrl, hRI, hS, hdist, hlen, q⟩ := h
    have hu := hu_of hr
    refine ⟨_, pss_cons (ps_if (pt_cmpR op_ne (pe_callB call_len_seq (by rfl) T.z_len PySem.boot_len (pa_cons (pv 1) pa_nil)) (pe_callB call_len_seq (by rfl) T.z_len PySem.boot_len (pa_cons (pe_fld (pv 0) rfl) pa_nil)) (nomark _)) pss_never pss_nil) <|
      pss_cons (ps_for PassesOwn.never rfl (pi_zip (by rfl) T.z_zip (pa_cons (pv 1) (pa_cons (pe_fld (pv 0) rfl) pa_nil))) (pg_tup rfl (pgs_cons (pg_name (i := 2) sc_Scene_beat.nd rfl (.inl rfl)) (pgs_cons (pg_name (i := 3) sc_Scene_beat.nd rfl (.inl rfl)) pgs_nil)))
        (pss_one (ps_if (pt_not (pt_chain op_le op_lt pe_int (pv 2) (pe_call GP hr (by rfl) T.power_of.gl T.power_of.fn.kp T.power_of.bd .nil pass0 (pa_cons (ixT (pv 3)) pa_nil)))) pss_never pss_nil))) <|
      pss_cons (ps_set (i := 4) sc_Scene_beat.nd rfl (.inr rfl) (pe_call GU hr (by rfl) T.unit_played.gl T.unit_played.fn.kp T.unit_played.bd .nil pass0 (pa_cons (pe_fld (pv 0) rfl) (pa_cons (pv 1) pa_nil)))) <|
      pss_cons (ps_expr (pe_call GM hr (by rfl) T.unit_moved.gl T.unit_moved.fn.kp T.unit_moved.bd .nil pass0 (pa_cons (pe_fld (pv 0) rfl) pa_nil))) <|
      pss_one (ps_ret (pe_lock (pe_lc (own := [("name", 5)]) (g := gName 5) (tt := tYes) (te := tOp (rIxT K) (tDGet (tVar 4) (tVar 5)) (tC (.int 0))) rfl sc_Scene_beat.nd (pi_keys (pv 4))
          (blkOk_by (N := ["self", "row", "value", "face", "told", "name"]) (sc := defScope s_Scene_beat) (by decide +kernel)) (fun _ _ _ _ _ => pg_name (i := 5) sc_Scene_beat.nd rfl (Or.inl rfl)) (fun _ _ _ _ _ => pts_nil)
          (fun _ _ _ _ _ => ixT (pe_dget hu (pv 4) (pv 5) (fun _ _ => rfl)))))), ?_⟩
    obtain ⟨dx, li, un, vi, hs1, hs2, hs3, hs4⟩ := hSc
    have lfi := paired_len hs3
    refine ⟨_, rfl, rl, _, rfl, .inl (SqL.of hrl), _, rfl, sn, _, dx, _, _, rfl, hs1, T.c_Scene.cl, T.n_Scene_ins, rfl, li, _, rfl, .inl (SqL.of hs2), rfl, _, rfl, ?_⟩
    refine iteNS (by rw [List.length_map, hRI.len, lfi]) ?_
    refine ⟨_, rfl, _, rfl, sn, _, dx, _, _, rfl, hs1, T.c_Scene.cl, T.n_Scene_ins, rfl, rl, li, _, _, rfl, SqL.of hrl, SqL.of hs2, ?_⟩
    refine for_it (walk_zip (n := ws.length) (by rw [List.length_map, lfi, hRI.len]; exact (Nat.min_self _).symm)) (fun i σ H' => (∃ z2 z3, σ = [some (.ref sn), some (.ref rl), z2, z3, none, none]) ∧ Same H H') ⟨⟨none, none, rfl⟩, Same.refl _⟩ (fun i σ H' _ ⟨_, s2⟩ => ⟨SqL.of (s2 _ _ hrl), SqL.of (s2 _ _ hs2)⟩) ?_ ?_
    · rintro i y σ H2 H3 hi ⟨⟨z2, z3, rfl⟩, s2⟩ ⟨t, x1, x2, rfl, ht, rfl, hx1, hx2⟩
      have s3 : Same H2 (upd H2 t (.tup [x1, x2])) := same_upd ht
      obtain ⟨v, hv, rfl⟩ : ∃ v, ws[i]? = some v ∧ V.int v = x1 := by
        have g : (ws.map V.int)[i]? = some x1 := hx1
        rw [List.getElem?_map] at g
        cases e : ws[i]? with
        | none => rw [e] at g; cases g
        | some v =>
          rw [e] at g
          exact ⟨v, rfl, Option.some.inj g⟩
      obtain ⟨f, hf, t2, rfl, ht2⟩ := paired_get hs3 hx2
      obtain ⟨b1, b2, b3⟩ := hRI.fit i v f hv hf
      refine ⟨t, _, rfl, SqT.of upd_same, rfl, _, _, rfl, _, _, rfl, rfl, ?_⟩
      refine ⟨_, rfl, _, _, rfl, rfl, _, rfl, ?_⟩
      rw [decide_eq_true b1]
      refine iteT ⟨_, rfl, t2, _, _, _, rfl, rfl, SqT.of (s3 _ _ (s2 _ _ ht2)), atI_nat (j := 1) rfl, f.2, rfl, b3, _, _, rfl, rfl, _, rfl, ?_⟩
      rw [decide_eq_true b2]
      exact iteF ⟨⟨_, _, rfl⟩, s2.trans s3⟩
    · rintro σ H2 ⟨⟨z2, z3, rfl⟩, s2⟩
      refine ⟨_, rfl, sn, _, dx, _, _, rfl, s2 _ _ hs1, T.c_Scene.cl, T.n_Scene_unit, rfl, _, rfl, un, md, rl, ws, rows, S, rfl, hs4.same s2, hM.same s2, s2 _ _ hrl, hS, fun H3 g kvs s3 hg hN => ?_⟩
      have s23 := s2.trans s3
      refine ⟨_, rfl, sn, _, dx, _, _, rfl, s23 _ _ hs1, T.c_Scene.cl, T.n_Scene_unit, rfl, un, md, rfl, hs4.same s23, fun H4 s4 => ?_⟩
      have s234 := s23.trans s4
      have hg4 := s4 _ _ hg
      have hN4 := Nms.tups (same_tups s4) hN
      have lk := paired_len hN
      refine ⟨g, .dK kvs, hg4, trivial, fun od => ?_⟩
      refine ⟨_, rfl, g, od, rfl, .inl ⟨kvs, upd_same, fun D hD => ?_⟩⟩
      have nDg : D ≠ g := fun z => by rw [z, upd_same] at hD; cases hD
      have hD0 : H4 D = none := by rw [upd_ne nDg] at hD; exact hD
      refine lc_it (walk_keys (kvs := kvs)) (fun i H' => H' g = some (.frz od (.dK kvs)) ∧ (∀ b o, H4 b = some o → b ≠ g → H' b = some o) ∧ H' D = some (.lst (((S.gl rows.length).map fun g => V.int g.2.1).take i))) ⟨(upd_ne nDg.symm).trans upd_same, fun b o e h => (upd_ne (ne_of_none e hD0)).trans ((upd_ne h).trans e), upd_same⟩ (fun i H' _ h => h.1) ?_ ?_
      · rintro i x H5 H6 hi ⟨g1, g2, g3⟩ ⟨rfl, k, v, hkv, rfl⟩
        obtain ⟨f, hf, e1, t, e2, ht⟩ := paired_get hN4 hkv
        have e1' : k = Sum.inr f.1 := e1
        subst e1'
        have hρ := hdist i f hf
        rcases hN4.find (x := f.1) with ⟨e3, _⟩ | ⟨a, n, t', e3, e4, e5⟩
        · rw [hρ] at e3; cases e3
        · rw [hρ] at e3
          have e6 : f.2 = (a, n) := Option.some.inj e3
          refine ⟨rfl, _, rfl, _, rfl, g, .ref t', rfl, .inl ⟨kvs, Sum.inr f.1, .inr ⟨od, g1⟩, rfl, e4.symm⟩, t', _, _, _, rfl, rfl, SqT.of (g2 _ _ e5 (ne_of e5 hg4 (by intro z; cases z))), atI_nat (j := 0) rfl, _, g3, ?_, ?_, ?_, ?_⟩
          · rw [List.length_take]
            exact Nat.lt_of_le_of_lt (Nat.min_le_right _ _) (small1000 (by rw [List.length_map]; omega))
          · exact (upd_ne nDg.symm).trans g1
          · exact fun b o e h => (upd_ne (ne_of_none e hD0)).trans (g2 b o e h)
          · rw [upd_same, List.take_add_one, List.getElem?_map, hf]
            show some (HO.lst (_ ++ [V.int a])) = some (HO.lst (_ ++ [V.int f.2.1]))
            rw [e6]
      · rintro H5 ⟨g1, g2, g3⟩
        refine ⟨g1, ?_⟩
        have e1 : ((S.gl rows.length).map fun g => V.int g.2.1).take kvs.length = (S.gl rows.length).map fun g => V.int g.2.1 := List.take_of_length_le (by rw [List.length_map]; omega)
        rw [e1] at g3
        refine q _ D (fun b o e => ?_) ((upd_ne nDg).trans g3)
        by_cases hb : b = g
        · subst hb
          have e4 := s234 _ _ e
          rw [hg4] at e4
          cases e4
          exact upd_same
        · exact (upd_ne hb).trans (g2 _ _ (s234 _ _ e) hb)
/-! ### held -/
theorem ok_held (T : Tx K mg) : FnOk P w K mg base CX0 2 (ma K (ga K "Scene") "held") (fda K (ma K (ga K "Scene") "held")) ["self"] (spHeld K) := by
  have GH : FnOk P w K mg base CX0 1 _ _ _ _ := ok_held_in T
  refine T.Scene_held.fn.ok sc_Scene_held (fun vs H Q E h => ?_) (fun cdv A outer s H vs Q E hr h => ?_)
  · obtain ⟨_, _, _, rfl, _⟩ := h
    rfl
  · obtain ⟨sn, md, fi, rfl, hSc, q⟩ := h
    refine ⟨_, pss_one (ps_ret (pe_call GH hr (by rfl) T.held_in.gl T.held_in.fn.kp T.held_in.bd .nil pass0 (pa_cons (pe_fld (pv 0) rfl) (pa_cons (pe_tup pa_nil) pa_nil)))), ?_⟩
    obtain ⟨dx, li, un, vi, hs1, hs2, hs3, hs4⟩ := hSc
    refine ⟨_, rfl, sn, _, dx, _, _, rfl, hs1, T.c_Scene.cl, T.n_Scene_unit, rfl, Nat.zero_le _, fun p hp => ?_⟩
    have s1 : Same H (upd H p (.tup [])) := same_upd hp
    exact ⟨un, md, p, rfl, hs4.same s1, fun H' l s2 hl => q H' l (s1.trans s2) hl⟩
end
end K11
set_option maxHeartbeats 4000000
/-! _law_next, _law_any_value -/
namespace K11
open PySem PySem.Spec PyProof.Rows L2 He
/-- the script and the counter -/
structure LwAt (K : PySem.W.Frag) (H : Hp) (a p : Addr) (ns : List Int) (n : Nat) : Prop where
  ex : ∃ H0, Same H0 H ∧ SqL K H0 a (ns.map V.int) ∧ H0 p = none
  len : ns.length ≤ 63
  ctr : H p = some (.lst [.int n])
  small : n ≤ 1000
theorem LwAt.sq {K : PySem.W.Frag} {H : Hp} {a p : Addr} {ns : List Int} {n : Nat} (h : LwAt K H a p ns n) : SqL K H a (ns.map V.int) := by
  obtain ⟨H0, s, q, _⟩ := h.ex
  exact s.seq q
/-- all but the counter stays -/
def Kp (H H' : Hp) (p : Addr) : Prop := ∀ b o, H b = some o → b ≠ p → H' b = some o
theorem LwAt.kp {K : PySem.W.Frag} {H H' : Hp} {a p : Addr} {ns : List Int} {n m : Nat} (h : LwAt K H a p ns n) (k : Kp H H' p) (hc : H' p = some (.lst [.int m])) (hm : m ≤ 1000) : LwAt K H' a p ns m := by
  obtain ⟨H0, s, q, e0⟩ := h.ex
  exact ⟨⟨H0, fun b o e => k b o (s b o e) (ne_of_none e e0), q, e0⟩, h.len, hc, hm⟩
theorem LwAt.same {K : PySem.W.Frag} {H H' : Hp} {a p : Addr} {ns : List Int} {n : Nat} (h : LwAt K H a p ns n) (k : Same H H') : LwAt K H' a p ns n := h.kp (fun b o e _ => k b o e) (k _ _ h.ctr) h.small
theorem atI_ints {l : List Int} {i : Int} (h0 : 0 ≤ i) (h1 : i < l.length) : ∃ v, v ∈ l ∧ atI (l.map V.int) i = some (.int v) := by
  obtain ⟨k, rfl⟩ := Int.eq_ofNat_of_zero_le h0
  have hk : k < l.length := by omega
  refine ⟨l[k], List.getElem_mem hk, atI_nat (j := k) ?_⟩
  rw [List.getElem?_map, List.getElem?_eq_getElem hk]
  rfl
def spNext (K : PySem.W.Frag) : Sp := fun vs H Q _ => ∃ (a p : Addr) (ns : List Int) (n : Nat), vs = [.ref a, .ref p] ∧ LwAt K H a p ns n ∧ n < 1000 ∧ ∀ H' (m : Int), 0 ≤ m → m < 2 ^ 31 → Kp H H' p → H' p = some (.lst [.int (n + 1 : Nat)]) → Q (.int m) H'
def spAny (K : PySem.W.Frag) : Sp := fun vs H Q _ => ∃ (a p : Addr) (ns : List Int) (n k : Nat), vs = [.ref a, .ref p, .int (2 ^ k)] ∧ k ≤ 16 ∧ LwAt K H a p ns n ∧ n < 1000 ∧ ∀ H' (v : Int), 0 ≤ v → v < 2 ^ k → Kp H H' p → H' p = some (.lst [.int (n + 1 : Nat)]) → Q (.int v) H'
section
variable {P : Program} {w : World} {K : PySem.W.Frag} {mg : Str → Option Value} {base : Heap}
theorem ixL {X : Cx} {e : Expr} {i : Int} {j : Nat} {p1 p2 : Pos} {t : TE} (h : PE X e t) : PE X (.Subscript e (.Constant (.int i) j p1) p2) (tOp (rIxL X.K) t (tC (.int i))) := pe_ix ix_list h pe_int (fun _ _ => rfl)
/-! ### _law_next -/
abbrev rMod : R2 := rI (fun _ j => 0 < j) fun i j => .int (i % j)
abbrev rMul : R2 := rI CMul fun i j => .int (i * j)
abbrev rPlus : R2 := rI0 fun i j => .int (i + j)
/-- the last three rows of _law_next -/
def tTail (K : PySem.W.Frag) : TS :=
  tSeq (tAsg (tOp rMod (tOp rMul (tOp rPlus (tOp rPlus (tOp rMod (tVar 2) (tC (.int 2147483647))) (tOp rMul (tOp rMul (tOp (rIxL K) (tVar 1) (tC (.int 0))) (tOp (rIxL K) (tVar 1) (tC (.int 0)))) (tC (.int 7919)))) (tC (.int 11))) (tC (.int 48271))) (tC (.int 2147483647))) (gName 5)) <|
  tSeq (tAsg (tOp rMod (tOp rMul (tVar 5) (tVar 5)) (tC (.int 1999999973))) (gName 5)) <|
  tRet (tOp rMod (tOp rMul (tOp rPlus (tVar 5) (tOp rMul (tOp (rIxL K) (tVar 1) (tC (.int 0))) (tC (.int 104729)))) (tC (.int 69621))) (tC (.int 2147483629)))
theorem next_tail {H : Hp} {p : Addr} {n : Int} {c : Int} {x0 z3 z4 z5 : Option V} {nx bk ct : L2.St → Hp → Prop} {Q : VK} (h0 : 0 ≤ n) (h1 : n ≤ 1001) (hc : H p = some (.lst [.int n])) (q : ∀ m : Int, 0 ≤ m → m < 2 ^ 31 → Q (.int m) H) :
    tTail K ⟨nx, Q, bk, ct⟩ [x0, some (.ref p), some (.int c), z3, z4, z5] H := by
  have hP : SqL K H p [.int n] := SqL.of hc
  have i0 : atI [V.int n] (0 : Int) = some (.int n) := atI_nat (j := 0) rfl
  have b64 : -(2 ^ 64) < n ∧ n < 2 ^ 64 := by constructor <;> omega
  refine ⟨_, rfl, _, _, rfl, rfl, (by show (0 : Int) < 2147483647; decide), _, rfl, p, _, _, _, rfl, rfl, hP, i0, _, rfl, p, _, _, _, rfl, rfl, hP, i0, _, _, rfl, rfl, .inl b64, _, _, rfl, rfl, .inr ⟨by decide, by decide⟩, _, _, rfl, rfl, _, _, rfl, rfl, _, _, rfl, rfl, .inr ⟨by decide, by decide⟩, _, _, rfl, rfl, (by show (0 : Int) < 2147483647; decide), ?_⟩
  generalize hm : (c % 2147483647 + n * n * 7919 + 11) * 48271 % 2147483647 = m
  have hm0 : 0 ≤ m := by rw [← hm]; exact Int.emod_nonneg _ (by decide)
  have hm1 : m < 2147483647 := by rw [← hm]; exact Int.emod_lt_of_pos _ (by decide)
  refine ⟨_, rfl, _, rfl, _, _, rfl, rfl, .inl ⟨by omega, by omega⟩, _, _, rfl, rfl, (by show (0 : Int) < 1999999973; decide), ?_⟩
  generalize hm2 : m * m % 1999999973 = m2
  refine ⟨_, rfl, _, rfl, p, _, _, _, rfl, rfl, hP, i0, _, _, rfl, rfl, .inr ⟨by decide, by decide⟩, _, _, rfl, rfl, _, _, rfl, rfl, .inr ⟨by decide, by decide⟩, _, _, rfl, rfl, (by show (0 : Int) < 2147483629; decide), ?_⟩
  have h : ∀ z : Int, z % 2147483629 < 2 ^ 31 := fun z => by
    have := Int.emod_lt_of_pos z (show (0 : Int) < 2147483629 by decide)
    omega
  exact q _ (Int.emod_nonneg _ (by decide)) (h _)
theorem ok_law_next (T : Tx K mg) : FnOk P w K mg base CX0 1 (ga K "_law_next") (fda K (ga K "_law_next")) ["_law_script", "_law_at"] (spNext K) := by
  refine T.law_next.fn.ok sc_law_next (fun vs H Q E h => ?_) (fun cdv A outer s H vs Q E hr h => ?_)
  · obtain ⟨_, _, _, _, rfl, _⟩ := h
    rfl
  · obtain ⟨a, p, ns, n, rfl, hL, hn, q⟩ := h
    refine ⟨_, pss_cons (ps_asg (pe_op op_add (ixL (pv 1)) pe_int) (pg_sub (pv 1) pe_int set_list)) <|
      pss_cons (ps_set (i := 2) sc_law_next.nd rfl (.inl rfl) pe_int) <|
      pss_cons (ps_if (pt_cmpR op_gt (pe_callB call_len_seq (by rfl) T.z_len PySem.boot_len (pa_cons (pv 0) pa_nil)) pe_int (nomark _))
        (pss_one (ps_set (i := 2) sc_law_next.nd rfl (.inl rfl) (pe_ix ix_list (pv 0) (pe_op op_mod (ixL (pv 1)) (pe_callB call_len_seq (by rfl) T.z_len PySem.boot_len (pa_cons (pv 0) pa_nil))) (fun _ _ => rfl)))) pss_nil) <|
      pss_cons (ps_if (PW.pt (pw_and (pt_cmpR op_gt (pe_callB call_len_seq (by rfl) T.z_len PySem.boot_len (pa_cons (pv 0) pa_nil)) pe_int (nomark _)) (pw_and1 (pt_cmpR op_eq (pe_op op_mod (ixL (pv 0)) pe_int) pe_int (nomark _)))))
        (pss_cons (ps_set (i := 3) sc_law_next.nd rfl (.inl rfl) (pv 2)) <|
         pss_cons (ps_for PassesOwn.never rfl (pi_range1 rfl T.z_range (pa_cons (pe_op op_mod (pe_op op_fdiv (ixL (pv 1)) (pe_callB call_len_seq (by rfl) T.z_len PySem.boot_len (pa_cons (pv 0) pa_nil))) pe_int) pa_nil)) (pg_name (i := 4) sc_law_next.nd rfl (.inl rfl))
           (pss_one (ps_set (i := 3) sc_law_next.nd rfl (.inl rfl) (pe_op op_fdivW (pv 3) pe_int)))) <|
         pss_one (ps_if (PW.pt (pw_or (pt_cmpR op_notIn_seq (pv 3) (pe_tup (pa_cons pe_int (pa_cons (pe_un un_neg pe_int) pa_nil))) (by rfl)) (pw_or1 (pt_cmpR op_lt (ixL (pv 1)) (pe_callB call_len_seq (by rfl) T.z_len PySem.boot_len (pa_cons (pv 0) pa_nil)) (nomark _)))))
           (pss_one (ps_ret (pe_op op_mod (pv 3) pe_int))) pss_nil)) pss_nil) <|
      pss_cons (ps_set (i := 5) sc_law_next.nd rfl (.inl rfl) (pe_op op_mod (pe_op op_mul (pe_op op_add (pe_op op_add (pe_op op_mod (pv 2) pe_int) (pe_op op_mul (pe_op op_mul (ixL (pv 1)) (ixL (pv 1))) pe_int)) pe_int) pe_int) pe_int)) <|
      pss_cons (ps_set (i := 5) sc_law_next.nd rfl (.inl rfl) (pe_op op_mod (pe_op op_mul (pv 5) (pv 5)) pe_int)) <|
      pss_one (ps_ret (pe_op op_mod (pe_op op_mul (pe_op op_add (pv 5) (pe_op op_mul (ixL (pv 1)) pe_int)) pe_int) pe_int)), ?_⟩
    have hc := hL.ctr
    refine ⟨_, rfl, p, _, _, _, rfl, rfl, SqL.of hc, atI_nat (j := 0) rfl, _, _, rfl, rfl, ?_⟩
    refine ⟨_, rfl, p, _, 0, 0, rfl, rfl, hc, rfl, ?_⟩
    -- the heap behind the count
    have kp : Kp H (upd H p (.lst [.int (n + 1 : Nat)])) p := fun b o e h => (upd_ne h).trans e
    have hL1 : LwAt K (upd H p (.lst [.int (n + 1 : Nat)])) a p ns (n + 1) := hL.kp kp upd_same (by omega)
    have e1 : upd H p (.lst [.int (n + 1 : Nat)]) = upd H p (.lst [.int ((n : Int) + 1)]) := rfl
    rw [e1] at hL1 kp
    show tSeq _ _ _ _ (upd H p (.lst [.int ((n : Int) + 1)]))
    generalize hH1 : upd H p (.lst [.int ((n : Int) + 1)]) = H1 at hL1 kp
    clear hH1 e1 hc
    have hA : SqL K H1 a (ns.map V.int) := hL1.sq
    have hc1 : H1 p = some (.lst [.int ((n : Int) + 1)]) := hL1.ctr
    have hP : SqL K H1 p [.int ((n : Int) + 1)] := SqL.of hc1
    have i0 : atI [V.int ((n : Int) + 1)] (0 : Int) = some (.int ((n : Int) + 1)) := atI_nat (j := 0) rfl
    have b64 : -(2 ^ 64) < (n : Int) + 1 ∧ (n : Int) + 1 < 2 ^ 64 := by constructor <;> omega
    have lenE : ((ns.map V.int).length : Int) = (ns.length : Int) := by rw [List.length_map]
    refine ⟨_, rfl, a, _, rfl, .inl hA, _, _, rfl, rfl, _, rfl, ?_⟩
    by_cases h0 : 0 < ns.length
    · rw [decide_eq_true (show (0 : Int) < ((ns.map V.int).length : Int) by rw [lenE]; omega)]
      refine iteT ?_
      have hlp : (0 : Int) < ((ns.map V.int).length : Int) := by rw [lenE]; omega
      obtain ⟨c, _, hci⟩ := atI_ints (l := ns) (i := ((n : Int) + 1) % ((ns.map V.int).length : Int)) (Int.emod_nonneg _ (by omega)) (by have := Int.emod_lt_of_pos ((n : Int) + 1) hlp; rw [lenE] at this ⊢; exact this)
      obtain ⟨c0, _, hc0⟩ := atI_ints (l := ns) (i := 0) (by decide) (by omega)
      refine ⟨_, rfl, _, rfl, p, _, _, _, rfl, rfl, hP, i0, _, rfl, a, _, rfl, .inl hA, _, _, rfl, rfl, hlp, a, _, _, _, rfl, rfl, hA, hci, ?_⟩
      refine ⟨_, rfl, a, _, rfl, .inl hA, _, _, rfl, rfl, _, rfl, ?_⟩
      rw [decide_eq_true (show (0 : Int) < ((ns.map V.int).length : Int) by rw [lenE]; omega)]
      refine iteT ⟨_, rfl, a, _, _, _, rfl, rfl, hA, hc0, _, _, rfl, rfl, (by show (0 : Int) < 2; decide), rfl, _, rfl, ?_⟩
      refine ite2 (fun _ => ?_) (fun _ => ?_)
      · refine ⟨_, rfl, ?_⟩
        have m60 : ∀ z : Int, 0 ≤ z % 60 ∧ z % 60 < 60 := fun z => ⟨Int.emod_nonneg _ (by decide), Int.emod_lt_of_pos _ (by decide)⟩
        have hm := m60 (((n : Int) + 1) / ((ns.map V.int).length : Int))
        refine ⟨_, rfl, p, _, _, _, rfl, rfl, hP, i0, _, rfl, a, _, rfl, .inl hA, _, _, rfl, rfl, ⟨hlp, by rw [lenE]; have := hL.len; omega⟩, _, _, rfl, rfl, (by show (0 : Int) < 60; decide), _, rfl, by omega, by omega, ?_⟩
        refine for_range (lo := 0) (n := (((n : Int) + 1) / ((ns.map V.int).length : Int) % 60).toNat) (fun i σ H' => ∃ f z, σ = [some (.ref a), some (.ref p), some (.int c), some (.int f), z, none] ∧ H' = H1) ⟨c, none, rfl, rfl⟩ ?_ ?_
        · rintro i σ H' hi ⟨f, z, rfl, rfl⟩
          exact ⟨_, rfl, _, _, rfl, rfl, ⟨by decide, by decide +kernel⟩, _, _, rfl, rfl⟩
        · rintro σ H' ⟨f, z, rfl, rfl⟩
          refine ⟨_, rfl, 1, rfl, (show 2 ≤ sizeLine by decide), fun t ht => ?_⟩
          have nt : p ≠ t := ne_of_none hc1 ht
          have st : Same H' (upd H' t (.tup [.int 0, .int (-1)])) := same_upd ht
          have fin : ∀ m : Int, 0 ≤ m → m < 2 ^ 31 → Q (.int m) (upd H' t (.tup [.int 0, .int (-1)])) := fun m h1 h2 => q _ m h1 h2 (fun b o e hb => st _ _ (kp b o e hb)) (st _ _ hc1)
          have ret : ∀ D : Ends, D.rt = Q → tRet (tOp rMod (tVar 3) (tC (.int 2000000011))) D [some (.ref a), some (.ref p), some (.int c), some (.int f), z, none] (upd H' t (.tup [.int 0, .int (-1)])) := fun D hD => by
            refine ⟨_, rfl, _, _, rfl, rfl, (by show (0 : Int) < 2000000011; decide), ?_⟩
            rw [hD]
            refine fin _ (Int.emod_nonneg _ (by decide)) ?_
            have h : f % 2000000011 < 2000000011 := Int.emod_lt_of_pos _ (by decide)
            exact Int.lt_trans h (by decide)
          refine ⟨t, _, rfl, .inr (SqT.of upd_same), rfl, rfl, _, rfl, ?_⟩
          refine ite2 (fun _ => iteT (ret _ rfl)) (fun _ => ?_)
          refine ⟨_, rfl, p, _, _, _, rfl, rfl, SqL.of (st _ _ hc1), i0, _, rfl, a, _, rfl, .inl (st.seq hA), _, _, rfl, rfl, _, rfl, ?_⟩
          refine ite2 (fun _ => ret _ rfl) (fun _ => ?_)
          exact next_tail (K := K) (by omega) (by omega) (st _ _ hc1) fin
      · exact next_tail (K := K) (by omega) (by omega) hc1 fun m h1 h2 => q _ m h1 h2 kp hc1
    · rw [decide_eq_false (show ¬ (0 : Int) < ((ns.map V.int).length : Int) by rw [lenE]; omega)]
      refine iteF ⟨_, rfl, a, _, rfl, .inl hA, _, _, rfl, rfl, _, rfl, ?_⟩
      rw [decide_eq_false (show ¬ (0 : Int) < ((ns.map V.int).length : Int) by rw [lenE]; omega)]
      refine iteF (iteF ?_)
      exact next_tail (K := K) (by omega) (by omega) hc1 fun m h1 h2 => q _ m h1 h2 kp hc1
/-! ### _law_any_value -/
theorem ok_law_any_value (T : Tx K mg) : FnOk P w K mg base CX0 2 (ga K "_law_any_value") (fda K (ga K "_law_any_value")) ["_law_script", "_law_at", "_law_power_here"] (spAny K) := by
  have GN : FnOk P w K mg base CX0 1 _ _ _ _ := ok_law_next T
  refine T.law_any_value.fn.ok sc_law_any_value (fun vs H Q E h => ?_) (fun cdv A outer s H vs Q E hr h => ?_)
  · obtain ⟨_, _, _, _, _, rfl, _⟩ := h
    rfl
  · obtain ⟨a, p, ns, n, k, rfl, hk, hL, hn, q⟩ := h
    refine ⟨_, pss_cons (ps_set (i := 3) sc_law_any_value.nd rfl (.inl rfl) (pe_call GN hr (by rfl) T.law_next.gl T.law_next.fn.kp T.law_next.bd .nil pass0 (pa_cons (pv 0) (pa_cons (pv 1) pa_nil)))) <|
      pss_cons (ps_set (i := 4) sc_law_any_value.nd rfl (.inl rfl) (pe_lst (pa_cons pe_int (pa_cons (pe_op op_mod pe_int (pv 2)) (pa_cons (pe_op op_sub (pv 2) pe_int) (pa_cons (pe_op op_fdiv (pv 2) pe_int) (pa_cons (pe_op op_fdiv (pe_op op_sub (pv 2) pe_int) pe_int) pa_nil))))))) <|
      pss_one (ps_ret (pe_ix ix_list (pe_op op_cat (pv 4) (pe_lst (pa_cons (pe_op op_mod (pe_op op_fdiv (pv 3) pe_int) (pv 2)) (pa_cons (pe_op op_mod (pe_op op_fdiv (pv 3) pe_int) (pv 2)) (pa_cons (pe_op op_mod (pe_op op_fdiv (pv 3) pe_int) (pv 2)) pa_nil))))) (pe_op op_mod (pv 3) pe_int) (fun _ _ => rfl))), ?_⟩
    have hp := p2_pos k
    have d2 : ∀ z : Int, 0 ≤ z / 2 ∨ z < 0 := fun z => by omega
    refine ⟨_, rfl, _, rfl, a, p, ns, n, rfl, hL, hn, fun H1 m hm0 hm1 kp hc => ?_⟩
    refine ⟨_, rfl, _, _, rfl, rfl, hp, _, rfl, _, _, rfl, rfl, _, rfl, _, _, rfl, rfl, ⟨by decide, by decide⟩, _, rfl, _, _, rfl, rfl, _, _, rfl, rfl, ⟨by decide, by decide⟩, (show 5 ≤ sizeLine by decide), fun l1 hl1 => ?_⟩
    refine ⟨_, rfl, _, rfl, _, _, rfl, rfl, ⟨by decide, by decide⟩, _, rfl, _, _, rfl, rfl, hp, _, rfl, _, _, rfl, rfl, ⟨by decide, by decide⟩, _, rfl, _, _, rfl, rfl, hp, _, rfl, _, _, rfl, rfl, ⟨by decide, by decide⟩, _, rfl, _, _, rfl, rfl, hp, (show 3 ≤ sizeLine by decide), fun l2 hl2 => ?_⟩
    have n12 : l1 ≠ l2 := ne_of_none upd_same hl2
    refine ⟨l1, l2, _, _, rfl, rfl, (upd_ne n12).trans upd_same, upd_same, (show 8 ≤ sizeLine by decide), fun l3 hl3 => ?_⟩
    have hb : ∀ v ∈ [0, 1 % 2 ^ k, 2 ^ k - 1, 2 ^ k / 2, (2 ^ k - 1) / 2, m / 8 % 2 ^ k, m / 8 % 2 ^ k, m / 99 % 2 ^ k], (0 : Int) ≤ v ∧ v < 2 ^ k := by
      intro v hv
      have e1 : ∀ z : Int, 0 ≤ z % 2 ^ k ∧ z % 2 ^ k < 2 ^ k := fun z => ⟨Int.emod_nonneg _ (by omega), Int.emod_lt_of_pos _ hp⟩
      simp only [List.mem_cons, List.not_mem_nil, or_false] at hv
      rcases hv with rfl | rfl | rfl | rfl | rfl | rfl | rfl | rfl
      · exact ⟨by decide, hp⟩
      · exact e1 _
      · constructor <;> omega
      · constructor <;> omega
      · constructor <;> omega
      · exact e1 _
      · exact e1 _
      · exact e1 _
    obtain ⟨v, hv, hvi⟩ := atI_ints (l := [0, 1 % 2 ^ k, 2 ^ k - 1, 2 ^ k / 2, (2 ^ k - 1) / 2, m / 8 % 2 ^ k, m / 8 % 2 ^ k, m / 99 % 2 ^ k]) (i := m % 8) (Int.emod_nonneg _ (by decide)) (by have := Int.emod_lt_of_pos m (show (0 : Int) < 8 by decide); exact this)
    obtain ⟨b1, b2⟩ := hb v hv
    refine ⟨_, rfl, _, _, rfl, rfl, (by show (0 : Int) < 8; decide), l3, _, _, _, rfl, rfl, SqL.of upd_same, hvi, ?_⟩
    exact q _ v b1 b2 (fun b o e h => same_upd hl3 _ _ (same_upd hl2 _ _ (same_upd hl1 _ _ (kp b o e h)))) (same_upd hl3 _ _ (same_upd hl2 _ _ (same_upd hl1 _ _ hc)))
end
end K11
set_option maxHeartbeats 4000000
/-! _law_same, _law_due -/
namespace K11
open PySem PySem.Spec PyProof.Rows L2 He
def spS (b : Bool) : Sp := fun vs H Q _ => (∃ i : Int, vs = [.int i, .int i] ∧ Q (.bl true) H) ∨ (b = true ∧ ∃ (a c : Addr) (xs : List Int), vs = [.ref a, .ref c] ∧ H a = some (.lst (xs.map V.int)) ∧ H c = some (.lst (xs.map V.int)) ∧ xs.length ≤ 100 ∧ ∀ H', Same H H' → Q (.bl true) H')
theorem fn_falseS {P : Program} {w : World} {K : PySem.W.Frag} {mg : Str → Option Value} {base : Heap} {CX : CXT} {k : Nat} {f : Addr} {fd : FuncData} {ps : List Str} : FnOk P w K mg base CX k f fd ps (fun _ _ _ _ => False) :=
  ⟨fun _ _ _ _ h => h.elim, fun _ _ _ _ _ _ _ _ _ _ _ _ _ h => h.elim⟩
section
variable {P : Program} {w : World} {K : PySem.W.Frag} {mg : Str → Option Value} {base : Heap}


/-! ### _law_same -/
theorem ok_law_same_step (T : Tx K mg) {b : Bool} {k : Nat} {spX : Sp} (GS : FnOk P w K mg base CX0 k (ga K "_law_same") (fda K (ga K "_law_same")) ["_law_found", "_law_due_here"] spX) (hX : b = true → ∀ vs H Q E, spS false vs H Q E → spX vs H Q E) :
    FnOk P w K mg base CX0 (k + 1) (ga K "_law_same") (fda K (ga K "_law_same")) ["_law_found", "_law_due_here"] (spS b) := by
  refine T.law_same.fn.ok sc_law_same (fun vs H Q E h => ?_) (fun cdv A outer s H vs Q E hr h => ?_)
  · rcases h with ⟨i, rfl, _⟩ | ⟨_, a, c, xs, rfl, _⟩ <;> rfl
  · refine ⟨_, pss_cons (ps_if (pt_cmpR op_isN (pv 1) pe_non (nomark _)) pss_never pss_nil) <|
      pss_cons (ps_if (pt_val (pe_callB call_isi (by rfl) T.z_isinstance (by decide +kernel) (pa_cons (pv 1) (pa_cons (pe_bltn (v := .ty "dict") (u := .type "dict") (by rfl) T.z_dict (by decide +kernel) rfl) pa_nil)))) pss_never pss_nil) <|
      pss_cons (ps_if (PW.pt (pw_or (pt_val (pe_callB call_isi (by rfl) T.z_isinstance (by decide +kernel) (pa_cons (pv 1) (pa_cons (pe_bltn (v := .ty "list") (u := .type "list") (by rfl) T.z_list (by decide +kernel) rfl) pa_nil))))
          (pw_or1 (pt_val (pe_callB call_isi (by rfl) T.z_isinstance (by decide +kernel) (pa_cons (pv 1) (pa_cons (pe_bltn (v := .ty "tuple") (u := .type "tuple") (by rfl) T.z_tuple (by decide +kernel) rfl) pa_nil)))))))
        (pss_cons (ps_if (pt_cmpR op_ne (pe_callB call_isi (by rfl) T.z_isinstance (by decide +kernel) (pa_cons (pv 0) (pa_cons (pe_bltn (v := .ty "list") (u := .type "list") (by rfl) T.z_list (by decide +kernel) rfl) pa_nil)))
            (pe_callB call_isi (by rfl) T.z_isinstance (by decide +kernel) (pa_cons (pv 1) (pa_cons (pe_bltn (v := .ty "list") (u := .type "list") (by rfl) T.z_list (by decide +kernel) rfl) pa_nil))) (nomark _)) pss_never pss_nil) <|
         pss_cons (ps_if (PW.pt (pw_or (pt_cmpR op_ne (pe_callB call_isi (by rfl) T.z_isinstance (by decide +kernel) (pa_cons (pv 0) (pa_cons (pe_bltn (v := .ty "tuple") (u := .type "tuple") (by rfl) T.z_tuple (by decide +kernel) rfl) pa_nil)))
            (pe_callB call_isi (by rfl) T.z_isinstance (by decide +kernel) (pa_cons (pv 1) (pa_cons (pe_bltn (v := .ty "tuple") (u := .type "tuple") (by rfl) T.z_tuple (by decide +kernel) rfl) pa_nil))) (nomark _))
            (pw_or1 (pt_cmpR op_ne (pe_callB call_len_seq (by rfl) T.z_len PySem.boot_len (pa_cons (pv 0) pa_nil)) (pe_callB call_len_seq (by rfl) T.z_len PySem.boot_len (pa_cons (pv 1) pa_nil)) (nomark _))))) pss_never pss_nil) <|
         pss_one (ps_ret (pe_callB (cr_all rfl) (by rfl) T.z_all (by decide +kernel) (pa_cons (pe_lc (own := [("_law_one", 3), ("_law_other", 4)]) (g := gTup K 2 (gCons (gName 3) (gCons (gName 4) gNil))) (tt := tYes) (te := tCall spX [] E0 (tCons (tVar 3) (tCons (tVar 4) tNil))) rfl sc_law_same.nd (pi_zip (by rfl) T.z_zip (pa_cons (pv 0) (pa_cons (pv 1) pa_nil)))
            (blkOk_by (N := ["_law_found", "_law_due_here", "_law_name", "_law_one", "_law_other"]) (sc := defScope s_law_same) (by decide +kernel)) (fun _ _ _ _ _ => pg_tup rfl (pgs_cons (pg_name (i := 3) sc_law_same.nd rfl (Or.inl rfl) (Or.inr rfl)) (pgs_cons (pg_name (i := 4) sc_law_same.nd rfl (Or.inl rfl) (Or.inr rfl)) pgs_nil))) (fun _ _ _ _ _ => pts_nil)
            (fun _ _ _ _ _ => pe_call GS hr (by rfl) T.law_same.gl T.law_same.fn.kp T.law_same.bd .nil pass0 (pa_cons (pv 3) (pa_cons (pv 4) pa_nil)))) pa_nil)))) pss_nil) <|
      pss_cons (ps_if (pt_val (pe_callB call_isi (by rfl) T.z_isinstance (by decide +kernel) (pa_cons (pv 1) (pa_cons (pe_bltn (v := .ty "str") (u := .type "str") (by rfl) T.z_str (by decide +kernel) rfl) pa_nil)))) pss_never pss_nil) <|
      pss_one (ps_ret (pe_and (pe_callB call_isi (by rfl) T.z_isinstance (by decide +kernel) (pa_cons (pv 0) (pa_cons (pe_bltn (v := .ty "int") (u := .type "int") (by rfl) T.z_int (by decide +kernel) rfl) pa_nil)))
        (pe_and (pe_not (pe_callB call_isi (by rfl) T.z_isinstance (by decide +kernel) (pa_cons (pv 0) (pa_cons (pe_bltn (v := .ty "bool") (u := .type "bool") (by rfl) T.z_bool (by decide +kernel) rfl) pa_nil))))
          (pe_one (pe_cmpR op_eq (pv 0) (pv 1) (nomark _)))))), ?_⟩
    rcases h with ⟨i, rfl, q⟩ | ⟨hb, a, c, xs, rfl, ha, hc, hl, q⟩
    · have ty : ∀ H' : Hp, TyX K H' (.int i) (.type "int") := fun H' => .base (.int i)
      refine ⟨_, rfl, rfl, _, rfl, iteF ?_⟩
      refine ⟨_, rfl, _, _, _, _, false, rfl, .ty _, ty _, kit_ty (by decide +kernel), _, rfl, iteF ?_⟩
      refine ⟨_, rfl, _, _, _, _, false, rfl, .ty _, ty _, kit_ty (by decide +kernel), _, rfl, iteF ?_⟩
      refine ⟨_, rfl, _, _, _, _, false, rfl, .ty _, ty _, kit_ty (by decide +kernel), _, rfl, iteF ?_⟩
      refine ⟨_, rfl, _, _, _, _, false, rfl, .ty _, ty _, kit_ty (by decide +kernel), _, rfl, iteF ?_⟩
      refine ⟨_, rfl, _, _, _, _, true, rfl, .ty _, ty _, kit_ty (by decide +kernel), _, rfl, iteT ?_⟩
      refine ⟨_, rfl, _, _, _, _, false, rfl, .ty _, ty _, kit_ty (by decide +kernel), _, rfl, _, rfl, iteT ?_⟩
      refine ⟨_, rfl, _, rfl, rfl, ?_⟩
      show Q (.bl (decide (V.int i = V.int i))) H
      rw [show decide (V.int i = V.int i) = true from decide_eq_true rfl]
      exact q
    · have tya : TyX K H (.ref a) (.type "list") := .base (.lst ha)
      have tyc : TyX K H (.ref c) (.type "list") := .base (.lst hc)
      refine ⟨_, rfl, rfl, _, rfl, iteF ?_⟩
      refine ⟨_, rfl, _, _, _, _, false, rfl, .ty _, tyc, kit_ty (by decide +kernel), _, rfl, iteF ?_⟩
      refine ⟨_, rfl, _, _, _, _, true, rfl, .ty _, tyc, kit_ty (by decide +kernel), _, rfl, iteT (iteT ?_)⟩
      refine ⟨_, rfl, _, _, _, _, true, rfl, .ty _, tya, kit_ty (by decide +kernel), _, rfl, _, _, _, _, true, rfl, .ty _, tyc, kit_ty (by decide +kernel), rfl, _, rfl, iteNS rfl ?_⟩
      refine ⟨_, rfl, _, _, _, _, false, rfl, .ty _, tya, kit_ty (by decide +kernel), _, rfl, _, _, _, _, false, rfl, .ty _, tyc, kit_ty (by decide +kernel), rfl, _, rfl, iteNS rfl ?_⟩
      refine ⟨_, rfl, a, _, rfl, .inl (SqL.of ha), _, rfl, c, _, rfl, .inl (SqL.of hc), rfl, _, rfl, iteNS rfl ?_⟩
      refine ⟨_, rfl, _, rfl, a, c, _, _, rfl, SqL.of ha, SqL.of hc, fun D hD => ?_⟩
      refine lc_it (walk_zip (n := xs.length) (by rw [List.length_map]; exact (Nat.min_self _).symm)) (fun i H' => Same H H' ∧ H' D = some (.lst ((List.replicate i true).map V.bl))) ⟨same_upd hD, upd_same⟩ (fun i H' _ h => ⟨SqL.of (h.1 _ _ ha), SqL.of (h.1 _ _ hc)⟩) ?_ ?_
      · rintro i y H2 H3 hi ⟨s2, hD2⟩ ⟨t, x1, x2, rfl, ht, rfl, hx1, hx2⟩
        have s3 : Same H2 (upd H2 t (.tup [x1, x2])) := same_upd ht
        obtain ⟨v, rfl⟩ : ∃ v, x1 = V.int v := by
          have g : (xs.map V.int)[i]? = some x1 := hx1
          rw [List.getElem?_map] at g
          cases e : xs[i]? with
          | none => rw [e] at g; cases g
          | some v =>
            rw [e] at g
            exact ⟨v, (Option.some.inj g).symm⟩
        have e12 : x2 = V.int v := Option.some.inj (hx2.symm.trans hx1)
        subst e12
        refine ⟨t, _, rfl, SqT.of upd_same, rfl, _, _, rfl, _, _, rfl, rfl, rfl, _, rfl, _, rfl, ?_⟩
        refine hX hb _ _ _ _ (.inl ⟨v, rfl, _, s3 _ _ hD2, ?_, ?_, ?_⟩)
        · rw [List.length_map, List.length_replicate]
          exact small1000 (by omega)
        · intro b' o' eb
          rw [upd_ne (ne_of_none eb hD)]
          exact s3 _ _ (s2 _ _ eb)
        · rw [upd_same, List.replicate_succ', List.map_append]
          rfl
      · rintro H2 ⟨s2, hD2⟩
        refine ⟨D, _, rfl, SqL.of hD2, ?_⟩
        have e1 : (List.replicate xs.length true).all id = true := by
          rw [List.all_eq_true]
          intro y hy
          exact (List.mem_replicate.mp hy).2
        rw [e1]
        exact q _ s2
theorem ok_law_same (T : Tx K mg) : FnOk P w K mg base CX0 2 (ga K "_law_same") (fda K (ga K "_law_same")) ["_law_found", "_law_due_here"] (spS true) := by
  have G0 : FnOk P w K mg base CX0 1 (ga K "_law_same") (fda K (ga K "_law_same")) ["_law_found", "_law_due_here"] (spS false) := ok_law_same_step T (k := 0) (spX := fun _ _ _ _ => False) fn_falseS (fun h => nomatch h)
  exact ok_law_same_step T G0 (fun _ _ _ _ _ h => h)
end
end K11
set_option maxHeartbeats 4000000
/-! _law_due -/
namespace K11
open PySem PySem.Spec PyProof.Rows L2 He
theorem cut_take (xs : List V) (k : Nat) : cutV xs none (some (k : Int)) = xs.take k := by
  unfold cutV
  rw [HT.sIx_none, HT.sIx_nat]
  show (xs.drop 0).take (min k xs.length - 0) = xs.take k
  rw [List.drop_zero, Nat.sub_zero, ← List.take_take, List.take_length]
/-- what is due, as values -/
def due1 (a b : Int) (n : Nat) : List V := [.int (2 ^ n - 1 - a), .int (Builtin.bitAnd a b), .int (Builtin.bitOr a b), .int (Builtin.bitXor a b), .int ((a + b) % 2 ^ n), .int (if decide (a < b) = true then 1 else 0), .int (if decide (V.int a = V.int b) = true then 1 else 0)]
def due2 (a b c : Int) (lo br : Nat) : List V := [if decide (V.int c = V.int 1) = true then .int a else .int b, .int (a / 2 ^ lo % 2 ^ br)]
def due3 (a b d : Int) (n o : Nat) : List V := cutV [.int (a * 2 ^ o + d), .int (d * 2 ^ n + b)] none (some (2 * (if decide ((0 : Int) < o) = true then 1 else 0)))
def due4 (a v : Int) (n : Nat) : List V := [.int v, .int (2 ^ n - 1 - (a + v) % 2 ^ n)]
def due5 (a b : Int) (n : Nat) : List V := [if decide (b < a) = true then .int (Builtin.bitXor a (2 ^ n - 1 - b)) else .int ((b + b) % 2 ^ n)]
def dueV (a b c d : Int) (n o lo br : Nat) (v : Int) : List V := due1 a b n ++ due2 a b c lo br ++ due3 a b d n o ++ due4 a v n ++ due5 a b n
def dueL (a b c d : Int) (n o lo br : Nat) (v : Int) : List Int :=
  [2 ^ n - 1 - a, Builtin.bitAnd a b, Builtin.bitOr a b, Builtin.bitXor a b, (a + b) % 2 ^ n, if a < b then 1 else 0, if a = b then 1 else 0, if c = 1 then a else b, a / 2 ^ lo % 2 ^ br] ++
  (if 0 < o then [a * 2 ^ o + d, d * 2 ^ n + b] else []) ++ [v, 2 ^ n - 1 - (a + v) % 2 ^ n, if b < a then Builtin.bitXor a (2 ^ n - 1 - b) else (b + b) % 2 ^ n]
theorem due_eq (a b c d : Int) (n o lo br : Nat) (v : Int) : dueV a b c d n o lo br v = (dueL a b c d n o lo br v).map V.int := by
  have e1 : ∀ (p : Prop) [Decidable p] (x y : Int), (if decide p = true then V.int x else V.int y) = V.int (if p then x else y) := fun p _ x y => by
    by_cases h : p
    · rw [if_pos h, if_pos (decide_eq_true h)]
    · rw [if_neg h, if_neg (by rw [decide_eq_false h]; decide)]
  have e2 : ∀ (p : Prop) [Decidable p], (if decide p = true then (1 : Int) else 0) = if p then 1 else 0 := fun p _ => by
    by_cases h : p
    · rw [if_pos h, if_pos (decide_eq_true h)]
    · rw [if_neg h, if_neg (by rw [decide_eq_false h]; decide)]
  have e3 : (V.int c = V.int 1) = (c = 1) := propext ⟨fun h => V.int.inj h, fun h => by rw [h]⟩
  have e4 : (V.int a = V.int b) = (a = b) := propext ⟨fun h => V.int.inj h, fun h => by rw [h]⟩
  have e5 : due3 a b d n o = (if 0 < o then [a * 2 ^ o + d, d * 2 ^ n + b] else []).map V.int := by
    unfold due3
    by_cases h : 0 < o
    · rw [if_pos h, if_pos (decide_eq_true (show (0 : Int) < o by omega))]
      exact cut_take _ 2
    · rw [if_neg h, if_neg (by rw [decide_eq_false (show ¬ (0 : Int) < o by omega)]; decide)]
      exact cut_take _ 0
  unfold dueV due1 due2 due4 due5 dueL
  rw [e5]
  simp only [List.map_append, List.map_cons, List.map_nil, e1, e2, List.append_assoc, List.cons_append, List.nil_append, V.int.injEq]
theorem due3_len (a b d : Int) (n o : Nat) : (due3 a b d n o).length ≤ 2 := by
  unfold due3
  exact Nat.le_trans (cutV_length _ _ _) (Nat.le_refl 2)
theorem ifv {k : Bool} {i j : Nat} {x y : V} {σ : L2.St} {H : Hp} {Q : VK} (hx : σ[i]? = some (some x)) (hy : σ[j]? = some (some y)) (q : Q (if k = true then x else y) H) : if k = true then tVar i σ H Q else tVar j σ H Q := by
  cases k
  · exact iteF ⟨y, hy, q⟩
  · exact iteT ⟨x, hx, q⟩
theorem ifq {k : Bool} {A B : Prop} {x y : V} {H : Hp} {Q : VK} (hx : Q x H → A) (hy : Q y H → B) (q : Q (if k = true then x else y) H) : if k = true then A else B := by
  cases k
  · exact iteF (hy q)
  · exact iteT (hx q)
def spDue : Sp := fun vs H Q _ => ∃ (r : Addr) (rs : List Int) (a b c d : Int) (n o lo br : Nat) (v : Int), vs = [.ref r, .int n, .int o, .int lo, .int br, .int v] ∧ H r = some (.lst (rs.map V.int)) ∧ rs.length ≤ 4 ∧ (rs ++ [0]).take 4 = [a, b, c, d] ∧ n ≤ 16 ∧ o ≤ 16 ∧ lo ≤ 16 ∧ br ≤ 16 ∧
  ∀ H' l, Same H H' → H' l = some (.lst ((dueL a b c d n o lo br v).map V.int)) → Q (.ref l) H'
section
variable {P : Program} {w : World} {K : PySem.W.Frag} {mg : Str → Option Value} {base : Heap}
theorem ok_law_due (T : Tx K mg) : FnOk P w K mg base CX0 2 (ga K "_law_due") (fda K (ga K "_law_due")) ["_law_row", "_law_wide", "_law_other", "_law_low", "_law_broad", "_law_value"] spDue := by
  have GP : FnOk P w K mg base CX0 1 _ _ _ _ := ok_law_power T
  refine T.law_due.fn.ok sc_law_due (fun vs H Q E h => ?_) (fun cdv A outer s H vs Q E hr h => ?_)
  · obtain ⟨_, _, _, _, _, _, _, _, _, _, _, rfl, _⟩ := h
    rfl
  · obtain ⟨r, rs, a, b, c, d, n, o, lo, br, v, rfl, hrow, hrl, htk, hn, ho, hlo, hbr, q⟩ := h
    refine ⟨_, pss_cons (ps_asg (pe_slice sl_list (pe_op op_cat (pv 0) (pe_lst (pa_cons pe_int pa_nil))) po_none (po_some pe_int))
          (pg_unl rfl (pgs_cons (pg_name (i := 6) sc_law_due.nd rfl (.inl rfl)) (pgs_cons (pg_name (i := 7) sc_law_due.nd rfl (.inl rfl)) (pgs_cons (pg_name (i := 8) sc_law_due.nd rfl (.inl rfl)) (pgs_cons (pg_name (i := 9) sc_law_due.nd rfl (.inl rfl)) pgs_nil)))))) <|
      pss_cons (ps_set (i := 10) sc_law_due.nd rfl (.inl rfl) (pe_call GP hr (by rfl) T.law_power.gl T.law_power.fn.kp T.law_power.bd .nil pass0 (pa_cons (pv 1) pa_nil))) <|
      pss_cons (ps_set (i := 11) sc_law_due.nd rfl (.inl rfl) (pe_lst (pa_cons (pe_op op_sub (pe_op op_sub (pv 10) pe_int) (pv 6)) (pa_cons (pe_op op_and (pv 6) (pv 7)) (pa_cons (pe_op op_or (pv 6) (pv 7)) (pa_cons (pe_op op_xor (pv 6) (pv 7)) (pa_cons (pe_op op_mod (pe_op op_add (pv 6) (pv 7)) (pv 10))
        (pa_cons (pe_callTy call_int1 (by rfl) T.z_int (by decide +kernel) (pa_cons (pe_cmpR op_lt (pv 6) (pv 7) (nomark _)) pa_nil)) (pa_cons (pe_callTy call_int1 (by rfl) T.z_int (by decide +kernel) (pa_cons (pe_cmpR op_eq (pv 6) (pv 7) (nomark _)) pa_nil)) pa_nil))))))))) <|
      pss_cons (ps_set (i := 11) sc_law_due.nd rfl (.inl rfl) (pe_op op_cat (pv 11) (pe_lst (pa_cons (pe_ifExp (pt_cmpR op_eq (pv 8) pe_int (nomark _)) (pv 6) (pv 7)) (pa_cons (pe_op op_mod (pe_op op_fdiv (pv 6) (pe_call GP hr (by rfl) T.law_power.gl T.law_power.fn.kp T.law_power.bd .nil pass0 (pa_cons (pv 3) pa_nil))) (pe_call GP hr (by rfl) T.law_power.gl T.law_power.fn.kp T.law_power.bd .nil pass0 (pa_cons (pv 4) pa_nil))) pa_nil))))) <|
      pss_cons (ps_set (i := 11) sc_law_due.nd rfl (.inl rfl) (pe_op op_cat (pv 11) (pe_slice sl_list (pe_lst (pa_cons (pe_op op_add (pe_op op_mul (pv 6) (pe_call GP hr (by rfl) T.law_power.gl T.law_power.fn.kp T.law_power.bd .nil pass0 (pa_cons (pv 2) pa_nil))) (pv 9)) (pa_cons (pe_op op_add (pe_op op_mul (pv 9) (pv 10)) (pv 7)) pa_nil))) po_none
        (po_some (pe_op op_mul pe_int (pe_callTy call_int1 (by rfl) T.z_int (by decide +kernel) (pa_cons (pe_cmpR op_gt (pv 2) pe_int (nomark _)) pa_nil))))))) <|
      pss_cons (ps_set (i := 11) sc_law_due.nd rfl (.inl rfl) (pe_op op_cat (pv 11) (pe_lst (pa_cons (pv 5) (pa_cons (pe_op op_sub (pe_op op_sub (pv 10) pe_int) (pe_op op_mod (pe_op op_add (pv 6) (pv 5)) (pv 10))) pa_nil))))) <|
      pss_one (ps_ret (pe_op op_cat (pv 11) (pe_lst (pa_cons (pe_ifExp (pt_cmpR op_lt (pv 7) (pv 6) (nomark _)) (pe_op op_xor (pv 6) (pe_op op_sub (pe_op op_sub (pv 10) pe_int) (pv 7))) (pe_op op_mod (pe_op op_add (pv 7) (pv 7)) (pv 10))) pa_nil)))), ?_⟩
    have hp := p2_pos n
    have z1 : ∀ k : Nat, k ≤ 30 → k ≤ sizeLine := fun k h => Nat.le_of_lt (small1000 (by omega))
    -- a, b, c, d
    refine ⟨_, rfl, z1 _ (by show 1 ≤ 30; decide), fun l0 h0 => ?_⟩
    have s0 : Same H (upd H l0 (.lst [.int 0])) := same_upd h0
    refine ⟨r, l0, _, _, rfl, rfl, s0 _ _ hrow, upd_same, z1 _ (by rw [List.length_map]; show rs.length + 1 ≤ 30; omega), fun l1 h1 => ?_⟩
    have s1 : Same H _ := s0.trans (same_upd (o := HO.lst (rs.map V.int ++ [V.int 0])) h1)
    refine ⟨4, rfl, l1, _, rfl, SqL.of upd_same, fun l2 h2 => ?_⟩
    have s2 := s1.trans (same_upd (o := .lst (cutV (rs.map V.int ++ [V.int 0]) none (some 4))) h2)
    have e4 : cutV (rs.map V.int ++ [.int 0]) none (some 4) = [.int a, .int b, .int c, .int d] := by
      have e := cut_take (rs.map V.int ++ [.int 0]) 4
      have e2 : rs.map V.int ++ [V.int 0] = (rs ++ [0]).map V.int := by rw [List.map_append]; rfl
      have e3 : cutV (rs.map V.int ++ [.int 0]) none (some 4) = (rs.map V.int ++ [V.int 0]).take 4 := e
      rw [e3, e2, ← List.map_take, htk]
      rfl
    rw [e4] at s2
    have hu2 : upd (upd (upd H l0 (.lst [.int 0])) l1 (.lst (rs.map V.int ++ [.int 0]))) l2 (.lst (cutV (rs.map V.int ++ [.int 0]) none (some 4))) = upd (upd (upd H l0 (.lst [.int 0])) l1 (.lst (rs.map V.int ++ [.int 0]))) l2 (.lst [.int a, .int b, .int c, .int d]) := by rw [e4]
    refine ⟨l2, [.int a, .int b, .int c, .int d], rfl, SqL.of (by rw [hu2]; exact upd_same), rfl, _, _, rfl, _, _, rfl, _, _, rfl, _, _, rfl, rfl, ?_⟩
    rw [hu2]
    show tSeq _ _ _ [some (.ref r), some (.int n), some (.int o), some (.int lo), some (.int br), some (.int v), some (.int a), some (.int b), some (.int c), some (.int d), none, none] (upd (upd (upd H l0 (.lst [.int 0])) l1 (.lst (rs.map V.int ++ [.int 0]))) l2 (.lst [.int a, .int b, .int c, .int d]))
    generalize upd (upd (upd H l0 (.lst [.int 0])) l1 (.lst (rs.map V.int ++ [.int 0]))) l2 (.lst [.int a, .int b, .int c, .int d]) = H2 at s2
    clear hu2 e4 h2 h1 h0 s1 s0
    -- the power
    refine ⟨_, rfl, n, rfl, hn, ?_⟩
    -- due, the first seven
    refine ⟨_, rfl, _, _, rfl, rfl, _, rfl, _, _, rfl, rfl, _, rfl, _, rfl, _, _, rfl, rfl, _, rfl, _, rfl, _, _, rfl, rfl, _, rfl, _, rfl, _, _, rfl, rfl, _, rfl, _, rfl, _, _, rfl, rfl, _, rfl, _, _, rfl, rfl, hp, _, rfl, _, rfl, _, _, rfl, rfl, .inr ⟨_, rfl, _, rfl, _, rfl, rfl, .inr ⟨_, rfl, z1 _ (by show 7 ≤ 30; decide), fun l3 h3 => ?_⟩⟩⟩
    have s3 : Same H (upd H2 l3 (.lst (due1 a b n))) := s2.trans (same_upd h3)
    have c3 : (upd H2 l3 (.lst (due1 a b n))) l3 = some (.lst (due1 a b n)) := upd_same
    show tSeq _ _ _ [some (.ref r), some (.int n), some (.int o), some (.int lo), some (.int br), some (.int v), some (.int a), some (.int b), some (.int c), some (.int d), some (.int (2 ^ n)), some (.ref l3)] (upd H2 l3 (.lst (due1 a b n)))
    generalize upd H2 l3 (.lst (due1 a b n)) = H3 at s3 c3
    clear h3 s2
    -- two more
    refine ⟨_, rfl, _, rfl, rfl, _, rfl, ifv (x := .int a) (y := .int b) rfl rfl ?_⟩
    refine ⟨_, rfl, _, rfl, lo, rfl, hlo, _, _, rfl, rfl, ⟨p2_pos lo, by have := p2_16 hlo; omega⟩, _, rfl, br, rfl, hbr, _, _, rfl, rfl, p2_pos br, z1 _ (by show 2 ≤ 30; decide), fun l4 h4 => ?_⟩
    have s4 := s3.trans (same_upd (o := .lst (due2 a b c lo br)) h4)
    have n34 : l3 ≠ l4 := ne_of_none c3 h4
    refine ⟨l3, l4, _, _, rfl, rfl, (upd_ne n34).trans c3, upd_same, z1 _ (by show 9 ≤ 30; decide), fun l5 h5 => ?_⟩
    have s5 := s4.trans (same_upd (o := .lst (due1 a b n ++ due2 a b c lo br)) h5)
    have c5 : upd (upd H3 l4 (.lst (due2 a b c lo br))) l5 (.lst (due1 a b n ++ due2 a b c lo br)) l5 = some (.lst (due1 a b n ++ due2 a b c lo br)) := upd_same
    show tSeq _ _ _ [some (.ref r), some (.int n), some (.int o), some (.int lo), some (.int br), some (.int v), some (.int a), some (.int b), some (.int c), some (.int d), some (.int (2 ^ n)), some (.ref l5)] (upd (upd H3 l4 (.lst (due2 a b c lo br))) l5 (.lst (due1 a b n ++ due2 a b c lo br)))
    generalize upd (upd H3 l4 (.lst (due2 a b c lo br))) l5 (.lst (due1 a b n ++ due2 a b c lo br)) = H5 at s5 c5
    clear h5 h4 s4 s3 c3 n34
    -- the joins
    refine ⟨_, rfl, _, rfl, _, rfl, o, rfl, ho, _, _, rfl, rfl, .inr (p2_lt ho), _, rfl, _, _, rfl, rfl, _, rfl, _, rfl, _, _, rfl, rfl, .inr (p2_lt hn), _, rfl, _, _, rfl, rfl, z1 _ (by show 2 ≤ 30; decide), fun l6 h6 => ?_⟩
    have s6 := s5.trans (same_upd (o := .lst [.int (a * 2 ^ o + d), .int (d * 2 ^ n + b)]) h6)
    have n56 : l5 ≠ l6 := ne_of_none c5 h6
    refine ⟨_, rfl, _, _, rfl, rfl, .inr ⟨_, rfl, _, _, rfl, rfl, .inl ⟨by decide, by decide⟩, _, rfl, l6, _, rfl, SqL.of upd_same, fun l7 h7 => ?_⟩⟩
    have s7 := s6.trans (same_upd (o := .lst (due3 a b d n o)) h7)
    have n57 : l5 ≠ l7 := ne_of_none ((upd_ne n56).trans c5) h7
    have d3l := due3_len a b d n o
    refine ⟨l5, l7, _, _, rfl, rfl, (upd_ne n57).trans ((upd_ne n56).trans c5), upd_same, z1 _ (by show (due1 a b n ++ due2 a b c lo br).length + (due3 a b d n o).length ≤ 30; show 9 + _ ≤ 30; omega), fun l8 h8 => ?_⟩
    have s8 := s7.trans (same_upd (o := .lst (due1 a b n ++ due2 a b c lo br ++ due3 a b d n o)) h8)
    have c8 : upd (upd (upd H5 l6 (.lst [.int (a * 2 ^ o + d), .int (d * 2 ^ n + b)])) l7 (.lst (due3 a b d n o))) l8 (.lst (due1 a b n ++ due2 a b c lo br ++ due3 a b d n o)) l8 = some (.lst (due1 a b n ++ due2 a b c lo br ++ due3 a b d n o)) := upd_same
    show tSeq _ _ _ [some (.ref r), some (.int n), some (.int o), some (.int lo), some (.int br), some (.int v), some (.int a), some (.int b), some (.int c), some (.int d), some (.int (2 ^ n)), some (.ref l8)] (upd (upd (upd H5 l6 (.lst [.int (a * 2 ^ o + d), .int (d * 2 ^ n + b)])) l7 (.lst (due3 a b d n o))) l8 (.lst (due1 a b n ++ due2 a b c lo br ++ due3 a b d n o)))
    generalize upd (upd (upd H5 l6 (.lst [.int (a * 2 ^ o + d), .int (d * 2 ^ n + b)])) l7 (.lst (due3 a b d n o))) l8 (.lst (due1 a b n ++ due2 a b c lo br ++ due3 a b d n o)) = H8 at s8 c8
    clear h8 h7 h6 s7 s6 s5 c5 n56 n57
    -- two more
    refine ⟨_, rfl, _, rfl, _, rfl, _, _, rfl, rfl, _, rfl, _, rfl, _, _, rfl, rfl, _, rfl, _, _, rfl, rfl, hp, _, _, rfl, rfl, z1 _ (by show 2 ≤ 30; decide), fun l9 h9 => ?_⟩
    have s9 := s8.trans (same_upd (o := .lst (due4 a v n)) h9)
    have n89 : l8 ≠ l9 := ne_of_none c8 h9
    refine ⟨l8, l9, _, _, rfl, rfl, (upd_ne n89).trans c8, upd_same, z1 _ (by rw [List.length_append]; show 9 + (due3 a b d n o).length + 2 ≤ 30; omega), fun l10 h10 => ?_⟩
    have s10 := s9.trans (same_upd (o := .lst (due1 a b n ++ due2 a b c lo br ++ due3 a b d n o ++ due4 a v n)) h10)
    have c10 : upd (upd H8 l9 (.lst (due4 a v n))) l10 (.lst (due1 a b n ++ due2 a b c lo br ++ due3 a b d n o ++ due4 a v n)) l10 = some (.lst (due1 a b n ++ due2 a b c lo br ++ due3 a b d n o ++ due4 a v n)) := upd_same
    show tRet (tOp rCat (tVar 11) (tLst _)) ⟨_, Q, _, _⟩ [some (.ref r), some (.int n), some (.int o), some (.int lo), some (.int br), some (.int v), some (.int a), some (.int b), some (.int c), some (.int d), some (.int (2 ^ n)), some (.ref l10)] (upd (upd H8 l9 (.lst (due4 a v n))) l10 (.lst (due1 a b n ++ due2 a b c lo br ++ due3 a b d n o ++ due4 a v n)))
    generalize upd (upd H8 l9 (.lst (due4 a v n))) l10 (.lst (due1 a b n ++ due2 a b c lo br ++ due3 a b d n o ++ due4 a v n)) = H10 at s10 c10
    clear h10 h9 s9 s8 c8 n89
    -- the last
    rw [← due_eq] at q
    have tail : ∀ x : V, due5 a b n = [x] → [x].length ≤ sizeLine ∧ ∀ l11, H10 l11 = none → rCat (.ref l10) (.ref l11) (upd H10 l11 (.lst [x])) Q := fun x ex => by
      refine ⟨z1 _ (by show 1 ≤ 30; decide), fun l11 h11 => ?_⟩
      have s11 := s10.trans (same_upd (o := .lst [x]) h11)
      have n11 : l10 ≠ l11 := ne_of_none c10 h11
      refine ⟨l10, l11, _, _, rfl, rfl, (upd_ne n11).trans c10, upd_same, z1 _ (by rw [List.length_append, List.length_append]; show 9 + (due3 a b d n o).length + 2 + 1 ≤ 30; omega), fun l12 h12 => ?_⟩
      have s12 := s11.trans (same_upd (o := .lst (due1 a b n ++ due2 a b c lo br ++ due3 a b d n o ++ due4 a v n ++ [x])) h12)
      refine q _ l12 s12 ?_
      unfold dueV
      rw [ex]
      exact upd_same
    refine ⟨_, rfl, _, rfl, _, rfl, _, _, rfl, rfl, _, rfl, ?_⟩
    refine ite2 (fun g => ?_) (fun g => ?_)
    · exact ⟨_, rfl, _, rfl, _, _, rfl, rfl, _, rfl, _, _, rfl, rfl, _, _, rfl, rfl, tail _ (by unfold due5; rw [if_pos g])⟩
    · exact ⟨_, rfl, _, rfl, _, _, rfl, rfl, _, rfl, _, _, rfl, rfl, hp, tail _ (by unfold due5; rw [if_neg g])⟩
end
end K11
set_option maxHeartbeats 4000000
/-! _law_module_by -/
namespace K11
open PySem PySem.Spec PyProof.Rows L2 He
theorem tg {H : Hp} {xs : List V} {Q : VK} (h : ∀ H' p, Same H H' → H' p = some (.tup xs) → Q (.ref p) H') : ∀ p, H p = none → Q (.ref p) (upd H p (.tup xs)) := fun p hp => h _ p (same_upd hp) upd_same
theorem lg {H : Hp} {xs : List V} {Q : VK} (h : ∀ H' p, Same H H' → H p = none → H' p = some (.lst xs) → Q (.ref p) H') : ∀ p, H p = none → Q (.ref p) (upd H p (.lst xs)) := fun p hp => h _ p (same_upd hp) hp upd_same
/-! ### the data -/
def xA : Ex := .nm "m"
def xB : Ex := .nm "c"
def xD : Ex := .nm "a"
def insOf (n o : Nat) : List Rw := [.inn "m" n, .inn "c" n, .inn "g" 1] ++ if 0 < o then [.inn "a" o] else []
def ex1 : List Ex := [.not xA, .bin .and xA xB, .bin .or xA xB, .bin .xor xA xB, .bin .plus xA xB, .bin .less xA xB, .bin .same xA xB]
def ex2 (lo br : Nat) : List Ex := [.pick (.nm "g") xA xB, .part xA lo br]
def ex3 (o : Nat) : List Ex := if 0 < o then [.bin .join xA xD, .bin .join xD xB] else []
def ex4 (v : Int) (n : Nat) : List Ex := [.val v n, .not (.bin .plus xA (.val v n))]
def ex5 : List Ex := [.pick (.bin .less xB xA) (.bin .xor xA (.not xB)) (.bin .plus xB xB)]
def exsOf (n o lo br : Nat) (v : Int) : List Ex := ex1 ++ ex2 lo br ++ ex3 o ++ ex4 v n ++ ex5
def nmOf (k : Nat) : Str := ("z" : Str) ++ (⟨#[("onmlkjihgfedcba" : Str).cps.getD k 0]⟩ : Str)
def outsFrom : Nat → List Ex → List Rw
  | _, [] => []
  | k, e :: es => .out (nmOf k) e :: outsFrom (k + 1) es
def rowsOf (n o lo br : Nat) (v : Int) : List Rw := insOf n o ++ outsFrom 0 (exsOf n o lo br v)
theorem outs_snoc : ∀ (es : List Ex) (k i : Nat) (e : Ex), es[i]? = some e → outsFrom k (es.take (i + 1)) = outsFrom k (es.take i) ++ [.out (nmOf (k + i)) e]
  | [], _, _, _, h => by simp at h
  | x :: es, k, 0, e, h => by
    have e1 := Option.some.inj h
    subst e1
    rfl
  | x :: es, k, i + 1, e, h => by
    have ih := outs_snoc es (k + 1) i e h
    show _ :: outsFrom (k + 1) (es.take (i + 1)) = _ :: (outsFrom (k + 1) (es.take i) ++ _)
    rw [ih, show k + 1 + i = k + (i + 1) by omega]
theorem outs_len : ∀ (es : List Ex) (k : Nat), (outsFrom k es).length = es.length
  | [], _ => rfl
  | _ :: es, k => congrArg Nat.succ (outs_len es (k + 1))
theorem exs_len (n o lo br : Nat) (v : Int) : (exsOf n o lo br v).length ≤ 14 := by
  unfold exsOf ex3
  split <;> (simp [ex1, ex2, ex4, ex5])
theorem ins_len (n o : Nat) : (insOf n o).length ≤ 4 := by
  unfold insOf
  split <;> simp
def insV (t1 t2 t3 t4 : Addr) (o : Nat) : List V := cutV [V.ref t1, V.ref t2, V.ref t3, V.ref t4] none (some (3 + (if decide ((0 : Int) < o) = true then 1 else 0)))
theorem insV_ok {H : Hp} {t1 t2 t3 t4 : Addr} {n o : Nat} (h1 : RwAt H (.inn "m" n) (.ref t1)) (h2 : RwAt H (.inn "c" n) (.ref t2)) (h3 : RwAt H (.inn "g" 1) (.ref t3)) (h4 : RwAt H (.inn "a" o) (.ref t4)) : Paired (fun v r => RwAt H r v) (insV t1 t2 t3 t4 o) (insOf n o) := by
  unfold insV insOf
  by_cases h : 0 < o
  · rw [if_pos h, if_pos (decide_eq_true (show (0 : Int) < o by omega))]
    rw [show cutV [V.ref t1, V.ref t2, V.ref t3, V.ref t4] none (some (3 + 1)) = [V.ref t1, V.ref t2, V.ref t3, V.ref t4] from cut_take _ 4]
    exact .cons h1 (.cons h2 (.cons h3 (.cons h4 .nil)))
  · rw [if_neg h, if_neg (by rw [decide_eq_false (show ¬ (0 : Int) < o by omega)]; decide)]
    rw [show cutV [V.ref t1, V.ref t2, V.ref t3, V.ref t4] none (some (3 + 0)) = [V.ref t1, V.ref t2, V.ref t3] from cut_take _ 3]
    exact .cons h1 (.cons h2 (.cons h3 .nil))
def joinV (t1 t2 : Addr) (o : Nat) : List V := cutV [V.ref t1, V.ref t2] none (some (2 * (if decide ((0 : Int) < o) = true then 1 else 0)))
theorem joinV_len (t1 t2 : Addr) (o : Nat) : (joinV t1 t2 o).length ≤ 2 := Nat.le_trans (cutV_length _ _ _) (Nat.le_refl 2)
theorem joinV_ok {H : Hp} {t1 t2 : Addr} {o : Nat} (h1 : ExAt H (.bin .join xA xD) (.ref t1)) (h2 : ExAt H (.bin .join xD xB) (.ref t2)) : Paired (fun v e => ExAt H e v) (joinV t1 t2 o) (ex3 o) := by
  unfold joinV ex3
  by_cases h : 0 < o
  · rw [if_pos h, if_pos (decide_eq_true (show (0 : Int) < o by omega))]
    rw [show cutV [V.ref t1, V.ref t2] none (some (2 * 1)) = [V.ref t1, V.ref t2] from cut_take _ 2]
    exact .cons h1 (.cons h2 .nil)
  · rw [if_neg h, if_neg (by rw [decide_eq_false (show ¬ (0 : Int) < o by omega)]; decide)]
    rw [show cutV [V.ref t1, V.ref t2] none (some (2 * 0)) = [] from cut_take _ 0]
    exact .nil
theorem item15 : ∀ i : Nat, i < 15 → ("onmlkjihgfedcba" : Str).cps[(i : Int).toNat]? = some (("onmlkjihgfedcba" : Str).cps.getD i 0) := by
  have h : ∀ i : _root_.Fin 15, ("onmlkjihgfedcba" : Str).cps[i.val]? = some (("onmlkjihgfedcba" : Str).cps.getD i.val 0) := by decide +kernel
  intro i hi
  rw [Int.toNat_natCast]
  exact h ⟨i, hi⟩
abbrev LEx (H : Hp) (l : Addr) (es : List Ex) : Prop := ∃ vs, H l = some (.lst vs) ∧ Paired (fun v e => ExAt H e v) vs es
abbrev LRw (H : Hp) (l : Addr) (rs : List Rw) : Prop := ∃ vs, H l = some (.lst vs) ∧ Paired (fun v r => RwAt H r v) vs rs
theorem pex_tups {H H' : Hp} (s : Tups H H') {vs : List V} {es : List Ex} (h : Paired (fun v e => ExAt H e v) vs es) : Paired (fun v e => ExAt H' e v) vs es := paired_map (fun _ _ g => g.tups s) h
theorem prw_tups {H H' : Hp} (s : Tups H H') {vs : List V} {es : List Rw} (h : Paired (fun v r => RwAt H r v) vs es) : Paired (fun v r => RwAt H' r v) vs es := paired_map (fun _ _ g => g.tups s) h
theorem paired_app {α β : Type} {F : α → β → Prop} : ∀ {xs xs' : List α} {ys ys' : List β}, Paired F xs ys → Paired F xs' ys' → Paired F (xs ++ xs') (ys ++ ys')
  | _, _, _, _, .nil, s => s
  | _, _, _, _, .cons r t, s => .cons r (paired_app t s)
def spModBy (K : PySem.W.Frag) : Sp := fun vs H Q _ => ∃ (n o lo br : Nat) (v : Int), vs = [.int n, .int o, .int lo, .int br, .int v] ∧ ∀ H' md, Same H H' → MdAt K H' md (rowsOf n o lo br v) → Q (.ref md) H'
section
variable {P : Program} {w : World} {K : PySem.W.Frag} {mg : Str → Option Value} {base : Heap}
theorem ok_law_module_by (T : Tx K mg) : FnOk P w K mg base CX0 3 (ga K "_law_module_by") (fda K (ga K "_law_module_by")) ["_law_wide", "_law_other", "_law_low", "_law_broad", "_law_value"] (spModBy K) := by
  have GM : FnOk P w K mg base CX0 1 _ _ _ _ := ok_Module_init T
  refine T.law_module_by.fn.ok sc_law_module_by (fun vs H Q E h => ?_) (fun cdv A outer s H vs Q E hr h => ?_)
  · obtain ⟨_, _, _, _, _, rfl, _⟩ := h
    rfl
  · obtain ⟨n, o, lo, br, v, rfl, q⟩ := h
    have nm2 : ∀ {X : Cx} {s1 s2 : Str} {i1 i2 k : Nat} {p1 p2 p3 : Pos}, PE X (.Tuple [.Constant (.str s1) i1 p1, .Constant (.str s2) i2 p2] k p3) (tTup (tCons (tC (.str s1)) (tCons (tC (.str s2)) tNil))) := pe_tup (pa_cons pe_str (pa_cons pe_str pa_nil))
    refine ⟨_, pss_cons (ps_set (i := 5) sc_law_module_by.nd rfl (.inl rfl) nm2) <|
      pss_cons (ps_set (i := 6) sc_law_module_by.nd rfl (.inl rfl) nm2) <|
      pss_cons (ps_set (i := 7) sc_law_module_by.nd rfl (.inl rfl) nm2) <|
      pss_cons (ps_set (i := 8) sc_law_module_by.nd rfl (.inl rfl) (pe_slice sl_list (pe_lst (pa_cons (pe_tup (pa_cons pe_str (pa_cons pe_str (pa_cons (pv 0) pa_nil)))) (pa_cons (pe_tup (pa_cons pe_str (pa_cons pe_str (pa_cons (pv 0) pa_nil)))) (pa_cons (pe_tup (pa_cons pe_str (pa_cons pe_str (pa_cons pe_int pa_nil)))) (pa_cons (pe_tup (pa_cons pe_str (pa_cons pe_str (pa_cons (pv 1) pa_nil)))) pa_nil))))) po_none
        (po_some (pe_op op_add pe_int (pe_callTy call_int1 (by rfl) T.z_int (by decide +kernel) (pa_cons (pe_cmpR op_gt (pv 1) pe_int (nomark _)) pa_nil)))))) <|
      pss_cons (ps_set (i := 9) sc_law_module_by.nd rfl (.inl rfl) (pe_lst (pa_cons (pe_tup (pa_cons pe_str (pa_cons (pv 5) pa_nil))) (pa_cons (pe_tup (pa_cons pe_str (pa_cons (pv 5) (pa_cons (pv 6) pa_nil)))) (pa_cons (pe_tup (pa_cons pe_str (pa_cons (pv 5) (pa_cons (pv 6) pa_nil)))) (pa_cons (pe_tup (pa_cons pe_str (pa_cons (pv 5) (pa_cons (pv 6) pa_nil))))
        (pa_cons (pe_tup (pa_cons pe_str (pa_cons (pv 5) (pa_cons (pv 6) pa_nil)))) (pa_cons (pe_tup (pa_cons pe_str (pa_cons (pv 5) (pa_cons (pv 6) pa_nil)))) (pa_cons (pe_tup (pa_cons pe_str (pa_cons (pv 5) (pa_cons (pv 6) pa_nil)))) pa_nil))))))))) <|
      pss_cons (ps_set (i := 9) sc_law_module_by.nd rfl (.inl rfl) (pe_op op_cat (pv 9) (pe_lst (pa_cons (pe_tup (pa_cons pe_str (pa_cons nm2 (pa_cons (pv 5) (pa_cons (pv 6) pa_nil))))) (pa_cons (pe_tup (pa_cons pe_str (pa_cons (pv 5) (pa_cons (pv 2) (pa_cons (pv 3) pa_nil))))) pa_nil))))) <|
      pss_cons (ps_set (i := 9) sc_law_module_by.nd rfl (.inl rfl) (pe_op op_cat (pv 9) (pe_slice sl_list (pe_lst (pa_cons (pe_tup (pa_cons pe_str (pa_cons (pv 5) (pa_cons (pv 7) pa_nil)))) (pa_cons (pe_tup (pa_cons pe_str (pa_cons (pv 7) (pa_cons (pv 6) pa_nil)))) pa_nil))) po_none
        (po_some (pe_op op_mul pe_int (pe_callTy call_int1 (by rfl) T.z_int (by decide +kernel) (pa_cons (pe_cmpR op_gt (pv 1) pe_int (nomark _)) pa_nil))))))) <|
      pss_cons (ps_set (i := 9) sc_law_module_by.nd rfl (.inl rfl) (pe_op op_cat (pv 9) (pe_lst (pa_cons (pe_tup (pa_cons pe_str (pa_cons (pv 4) (pa_cons (pv 0) pa_nil)))) (pa_cons (pe_tup (pa_cons pe_str (pa_cons (pe_tup (pa_cons pe_str (pa_cons (pv 5) (pa_cons (pe_tup (pa_cons pe_str (pa_cons (pv 4) (pa_cons (pv 0) pa_nil)))) pa_nil)))) pa_nil))) pa_nil))))) <|
      pss_cons (ps_expr (pe_bm PySem.F.plainAttrs_list PySem.F.slot_list_append PySem.F.type_list_append mt_append (pv 9) (pa_cons (pe_tup (pa_cons pe_str (pa_cons (pe_tup (pa_cons pe_str (pa_cons (pv 6) (pa_cons (pv 5) pa_nil)))) (pa_cons (pe_tup (pa_cons pe_str (pa_cons (pv 5) (pa_cons (pe_tup (pa_cons pe_str (pa_cons (pv 6) pa_nil))) pa_nil)))) (pa_cons (pe_tup (pa_cons pe_str (pa_cons (pv 6) (pa_cons (pv 6) pa_nil)))) pa_nil))))) pa_nil))) <|
      pss_cons (ps_for PassesOwn.never rfl (pi_enum (by rfl) T.z_enumerate (pa_cons (pv 9) pa_nil)) (pg_tup rfl (pgs_cons (pg_name (i := 10) sc_law_module_by.nd rfl (.inl rfl)) (pgs_cons (pg_name (i := 11) sc_law_module_by.nd rfl (.inl rfl)) pgs_nil)))
        (pss_one (ps_expr (pe_bm PySem.F.plainAttrs_list PySem.F.slot_list_append PySem.F.type_list_append mt_append (pv 8) (pa_cons (pe_tup (pa_cons pe_str (pa_cons (pe_op op_add_str pe_str (pe_item_str pe_str (pv 10) (fun _ _ => rfl))) (pa_cons (pv 11) pa_nil)))) pa_nil))))) <|
      pss_one (ps_ret (pe_make T.c_Module.mkr GM hr (by rfl) T.c_Module.gl T.Module_init.bd .nil pass0 (pa_cons pe_str (pa_cons (pv 8) pa_nil)))), ?_⟩
    have zz : ∀ k : Nat, k ≤ 30 → k ≤ sizeLine := fun k h => Nat.le_of_lt (small1000 (by omega))
    have y1 := zz 1 (by decide)
    have y2 := zz 2 (by decide)
    have y3 := zz 3 (by decide)
    have y4 := zz 4 (by decide)
    have y7 := zz 7 (by decide)
    -- a, b, d
    refine ⟨y2, fun pa h_pa => ?_⟩
    have s_pa := same_upd (o := HO.tup [V.str "name", V.str "m"]) h_pa
    have e_pa := upd_same (H := H) (a := pa) (o := HO.tup [V.str "name", V.str "m"])
    generalize upd H pa (HO.tup [V.str "name", V.str "m"]) = H1 at s_pa e_pa ⊢
    refine ⟨y2, fun pb h_pb => ?_⟩
    have s_pb := same_upd (o := HO.tup [V.str "name", V.str "c"]) h_pb
    have e_pb := upd_same (H := H1) (a := pb) (o := HO.tup [V.str "name", V.str "c"])
    generalize upd H1 pb (HO.tup [V.str "name", V.str "c"]) = H2 at s_pb e_pb ⊢
    refine ⟨y2, fun pd h_pd => ?_⟩
    have s_pd := same_upd (o := HO.tup [V.str "name", V.str "a"]) h_pd
    have e_pd := upd_same (H := H2) (a := pd) (o := HO.tup [V.str "name", V.str "a"])
    generalize upd H2 pd (HO.tup [V.str "name", V.str "a"]) = H3 at s_pd e_pd ⊢
    have s0 := Same.refl H
    have z_pd := Same.refl H3
    have z_pb := s_pd.trans z_pd
    have z_pa := s_pb.trans z_pb
    have zB := s_pa.trans z_pa
    replace s0 := s0.trans zB
    have xa : ExAt H3 xA (.ref pa) := ⟨pa, rfl, z_pa _ _ e_pa⟩
    have xb : ExAt H3 xB (.ref pb) := ⟨pb, rfl, z_pb _ _ e_pb⟩
    have xd : ExAt H3 xD (.ref pd) := ⟨pd, rfl, z_pd _ _ e_pd⟩
    clear zB z_pa s_pa e_pa h_pa z_pb s_pb e_pb h_pb z_pd s_pd e_pd h_pd
    show tSeq _ _ _ [some (.int n), some (.int o), some (.int lo), some (.int br), some (.int v), some (.ref pa), some (.ref pb), some (.ref pd), none, none, none, none] H3
    -- rows
    refine ⟨_, rfl, ?_⟩
    refine ⟨y3, fun t1 h_t1 => ?_⟩
    have s_t1 := same_upd (o := HO.tup [V.str "in", V.str "m", V.int n]) h_t1
    have e_t1 := upd_same (H := H3) (a := t1) (o := HO.tup [V.str "in", V.str "m", V.int n])
    generalize upd H3 t1 (HO.tup [V.str "in", V.str "m", V.int n]) = H4 at s_t1 e_t1 ⊢
    refine ⟨_, rfl, ?_⟩
    refine ⟨y3, fun t2 h_t2 => ?_⟩
    have s_t2 := same_upd (o := HO.tup [V.str "in", V.str "c", V.int n]) h_t2
    have e_t2 := upd_same (H := H4) (a := t2) (o := HO.tup [V.str "in", V.str "c", V.int n])
    generalize upd H4 t2 (HO.tup [V.str "in", V.str "c", V.int n]) = H5 at s_t2 e_t2 ⊢
    refine ⟨y3, fun t3 h_t3 => ?_⟩
    have s_t3 := same_upd (o := HO.tup [V.str "in", V.str "g", V.int 1]) h_t3
    have e_t3 := upd_same (H := H5) (a := t3) (o := HO.tup [V.str "in", V.str "g", V.int 1])
    generalize upd H5 t3 (HO.tup [V.str "in", V.str "g", V.int 1]) = H6 at s_t3 e_t3 ⊢
    refine ⟨_, rfl, ?_⟩
    refine ⟨y3, fun t4 h_t4 => ?_⟩
    have s_t4 := same_upd (o := HO.tup [V.str "in", V.str "a", V.int o]) h_t4
    have e_t4 := upd_same (H := H6) (a := t4) (o := HO.tup [V.str "in", V.str "a", V.int o])
    generalize upd H6 t4 (HO.tup [V.str "in", V.str "a", V.int o]) = H7 at s_t4 e_t4 ⊢
    refine ⟨y4, fun l0 h_l0 => ?_⟩
    have s_l0 := same_upd (o := HO.lst [V.ref t1, V.ref t2, V.ref t3, V.ref t4]) h_l0
    have e_l0 := upd_same (H := H7) (a := l0) (o := HO.lst [V.ref t1, V.ref t2, V.ref t3, V.ref t4])
    generalize upd H7 l0 (HO.lst [V.ref t1, V.ref t2, V.ref t3, V.ref t4]) = H8 at s_l0 e_l0 ⊢
    refine ⟨_, rfl, _, _, rfl, rfl, .inr ⟨_, rfl, _, _, rfl, rfl, _, rfl, l0, _, rfl, SqL.of e_l0, fun lr h_lr => ?_⟩⟩
    have s_lr := same_upd (o := HO.lst (insV t1 t2 t3 t4 o)) h_lr
    have e_lr := upd_same (H := H8) (a := lr) (o := HO.lst (insV t1 t2 t3 t4 o))
    show tSeq _ _ _ [some (.int n), some (.int o), some (.int lo), some (.int br), some (.int v), some (.ref pa), some (.ref pb), some (.ref pd), some (.ref lr), none, none, none] (upd H8 lr (HO.lst (insV t1 t2 t3 t4 o)))
    generalize upd H8 lr (HO.lst (insV t1 t2 t3 t4 o)) = H9 at s_lr e_lr ⊢
    have sx_lr := s0.trans (s_t1.trans (s_t2.trans (s_t3.trans (s_t4.trans s_l0))))
    have z_lr := Same.refl H9
    have z_l0 := s_lr.trans z_lr
    have z_t4 := s_l0.trans z_l0
    have z_t3 := s_t4.trans z_t4
    have z_t2 := s_t3.trans z_t3
    have z_t1 := s_t2.trans z_t2
    have zB := s_t1.trans z_t1
    replace s0 := s0.trans zB
    replace xa := xa.tups (same_tups zB)
    replace xb := xb.tups (same_tups zB)
    replace xd := xd.tups (same_tups zB)
    have lrw : LRw H9 lr (insOf n o) := ⟨_, e_lr, insV_ok ⟨t1, rfl, z_t1 _ _ e_t1⟩ ⟨t2, rfl, z_t2 _ _ e_t2⟩ ⟨t3, rfl, z_t3 _ _ e_t3⟩ ⟨t4, rfl, z_t4 _ _ e_t4⟩⟩
    have flr : H lr = none := by
      cases eq : H lr with
      | none => rfl
      | some ob => exact absurd rfl (ne_of_none (sx_lr _ _ eq) h_lr)
    clear sx_lr
    clear zB z_t1 s_t1 e_t1 h_t1 z_t2 s_t2 e_t2 h_t2 z_t3 s_t3 e_t3 h_t3 z_t4 s_t4 e_t4 h_t4 z_l0 s_l0 e_l0 h_l0 z_lr s_lr e_lr h_lr
    -- the first seven
    refine ⟨_, rfl, ?_⟩
    refine ⟨y2, fun u0 h_u0 => ?_⟩
    have s_u0 := same_upd (o := HO.tup [V.str "not", V.ref pa]) h_u0
    have e_u0 := upd_same (H := H9) (a := u0) (o := HO.tup [V.str "not", V.ref pa])
    generalize upd H9 u0 (HO.tup [V.str "not", V.ref pa]) = H10 at s_u0 e_u0 ⊢
    refine ⟨_, rfl, _, rfl, ?_⟩
    refine ⟨y3, fun u1 h_u1 => ?_⟩
    have s_u1 := same_upd (o := HO.tup [V.str "and", V.ref pa, V.ref pb]) h_u1
    have e_u1 := upd_same (H := H10) (a := u1) (o := HO.tup [V.str "and", V.ref pa, V.ref pb])
    generalize upd H10 u1 (HO.tup [V.str "and", V.ref pa, V.ref pb]) = H11 at s_u1 e_u1 ⊢
    refine ⟨_, rfl, _, rfl, ?_⟩
    refine ⟨y3, fun u2 h_u2 => ?_⟩
    have s_u2 := same_upd (o := HO.tup [V.str "or", V.ref pa, V.ref pb]) h_u2
    have e_u2 := upd_same (H := H11) (a := u2) (o := HO.tup [V.str "or", V.ref pa, V.ref pb])
    generalize upd H11 u2 (HO.tup [V.str "or", V.ref pa, V.ref pb]) = H12 at s_u2 e_u2 ⊢
    refine ⟨_, rfl, _, rfl, ?_⟩
    refine ⟨y3, fun u3 h_u3 => ?_⟩
    have s_u3 := same_upd (o := HO.tup [V.str "xor", V.ref pa, V.ref pb]) h_u3
    have e_u3 := upd_same (H := H12) (a := u3) (o := HO.tup [V.str "xor", V.ref pa, V.ref pb])
    generalize upd H12 u3 (HO.tup [V.str "xor", V.ref pa, V.ref pb]) = H13 at s_u3 e_u3 ⊢
    refine ⟨_, rfl, _, rfl, ?_⟩
    refine ⟨y3, fun u4 h_u4 => ?_⟩
    have s_u4 := same_upd (o := HO.tup [V.str "plus", V.ref pa, V.ref pb]) h_u4
    have e_u4 := upd_same (H := H13) (a := u4) (o := HO.tup [V.str "plus", V.ref pa, V.ref pb])
    generalize upd H13 u4 (HO.tup [V.str "plus", V.ref pa, V.ref pb]) = H14 at s_u4 e_u4 ⊢
    refine ⟨_, rfl, _, rfl, ?_⟩
    refine ⟨y3, fun u5 h_u5 => ?_⟩
    have s_u5 := same_upd (o := HO.tup [V.str "less", V.ref pa, V.ref pb]) h_u5
    have e_u5 := upd_same (H := H14) (a := u5) (o := HO.tup [V.str "less", V.ref pa, V.ref pb])
    generalize upd H14 u5 (HO.tup [V.str "less", V.ref pa, V.ref pb]) = H15 at s_u5 e_u5 ⊢
    refine ⟨_, rfl, _, rfl, ?_⟩
    refine ⟨y3, fun u6 h_u6 => ?_⟩
    have s_u6 := same_upd (o := HO.tup [V.str "same", V.ref pa, V.ref pb]) h_u6
    have e_u6 := upd_same (H := H15) (a := u6) (o := HO.tup [V.str "same", V.ref pa, V.ref pb])
    generalize upd H15 u6 (HO.tup [V.str "same", V.ref pa, V.ref pb]) = H16 at s_u6 e_u6 ⊢
    refine ⟨y7, fun le1 h_le1 => ?_⟩
    have s_le1 := same_upd (o := HO.lst [V.ref u0, V.ref u1, V.ref u2, V.ref u3, V.ref u4, V.ref u5, V.ref u6]) h_le1
    have e_le1 := upd_same (H := H16) (a := le1) (o := HO.lst [V.ref u0, V.ref u1, V.ref u2, V.ref u3, V.ref u4, V.ref u5, V.ref u6])
    generalize upd H16 le1 (HO.lst [V.ref u0, V.ref u1, V.ref u2, V.ref u3, V.ref u4, V.ref u5, V.ref u6]) = H17 at s_le1 e_le1 ⊢
    show tSeq _ _ _ [some (.int n), some (.int o), some (.int lo), some (.int br), some (.int v), some (.ref pa), some (.ref pb), some (.ref pd), some (.ref lr), some (.ref le1), none, none] H17
    have z_le1 := Same.refl H17
    have z_u6 := s_le1.trans z_le1
    have z_u5 := s_u6.trans z_u6
    have z_u4 := s_u5.trans z_u5
    have z_u3 := s_u4.trans z_u4
    have z_u2 := s_u3.trans z_u3
    have z_u1 := s_u2.trans z_u2
    have z_u0 := s_u1.trans z_u1
    have zB := s_u0.trans z_u0
    replace s0 := s0.trans zB
    replace xa := xa.tups (same_tups zB)
    replace xb := xb.tups (same_tups zB)
    replace xd := xd.tups (same_tups zB)
    have lex : LEx H17 le1 ex1 := ⟨_, z_le1 _ _ e_le1, .cons ⟨u0, V.ref pa, rfl, z_u0 _ _ e_u0, xa⟩ (.cons ⟨u1, V.ref pa, V.ref pb, rfl, z_u1 _ _ e_u1, xa, xb⟩ (.cons ⟨u2, V.ref pa, V.ref pb, rfl, z_u2 _ _ e_u2, xa, xb⟩ (.cons ⟨u3, V.ref pa, V.ref pb, rfl, z_u3 _ _ e_u3, xa, xb⟩ (.cons ⟨u4, V.ref pa, V.ref pb, rfl, z_u4 _ _ e_u4, xa, xb⟩ (.cons ⟨u5, V.ref pa, V.ref pb, rfl, z_u5 _ _ e_u5, xa, xb⟩ (.cons ⟨u6, V.ref pa, V.ref pb, rfl, z_u6 _ _ e_u6, xa, xb⟩ (.nil)))))))⟩
    obtain ⟨vr, er, pr⟩ := lrw
    replace er := zB _ _ er
    replace pr := prw_tups (same_tups zB) pr
    clear zB z_u0 s_u0 e_u0 h_u0 z_u1 s_u1 e_u1 h_u1 z_u2 s_u2 e_u2 h_u2 z_u3 s_u3 e_u3 h_u3 z_u4 s_u4 e_u4 h_u4 z_u5 s_u5 e_u5 h_u5 z_u6 s_u6 e_u6 h_u6 z_le1 s_le1 e_le1 h_le1
    obtain ⟨vs, ev, pv⟩ := lex
    have lv := paired_len pv
    -- two more
    refine ⟨_, rfl, ?_⟩
    refine ⟨y2, fun pg h_pg => ?_⟩
    have s_pg := same_upd (o := HO.tup [V.str "name", V.str "g"]) h_pg
    have e_pg := upd_same (H := H17) (a := pg) (o := HO.tup [V.str "name", V.str "g"])
    generalize upd H17 pg (HO.tup [V.str "name", V.str "g"]) = H18 at s_pg e_pg ⊢
    refine ⟨_, rfl, _, rfl, ?_⟩
    refine ⟨y4, fun v1 h_v1 => ?_⟩
    have s_v1 := same_upd (o := HO.tup [V.str "pick", V.ref pg, V.ref pa, V.ref pb]) h_v1
    have e_v1 := upd_same (H := H18) (a := v1) (o := HO.tup [V.str "pick", V.ref pg, V.ref pa, V.ref pb])
    generalize upd H18 v1 (HO.tup [V.str "pick", V.ref pg, V.ref pa, V.ref pb]) = H19 at s_v1 e_v1 ⊢
    refine ⟨_, rfl, _, rfl, _, rfl, ?_⟩
    refine ⟨y4, fun v2 h_v2 => ?_⟩
    have s_v2 := same_upd (o := HO.tup [V.str "part", V.ref pa, V.int lo, V.int br]) h_v2
    have e_v2 := upd_same (H := H19) (a := v2) (o := HO.tup [V.str "part", V.ref pa, V.int lo, V.int br])
    generalize upd H19 v2 (HO.tup [V.str "part", V.ref pa, V.int lo, V.int br]) = H20 at s_v2 e_v2 ⊢
    refine ⟨y2, fun r2 h_r2 => ?_⟩
    have s_r2 := same_upd (o := HO.lst [V.ref v1, V.ref v2]) h_r2
    have e_r2 := upd_same (H := H20) (a := r2) (o := HO.lst [V.ref v1, V.ref v2])
    generalize upd H20 r2 (HO.lst [V.ref v1, V.ref v2]) = H21 at s_r2 e_r2 ⊢
    have y_r2 := Same.refl H21
    have y_v2 := s_r2.trans y_r2
    have y_v1 := s_v2.trans y_v2
    have y_pg := s_v1.trans y_v1
    have yB := s_pg.trans y_pg
    refine ⟨le1, r2, _, _, rfl, rfl, yB _ _ ev, y_r2 _ _ e_r2, zz _ (by rw [lv]; show 9 ≤ 30; decide), fun le2 h_le2 => ?_⟩
    have s_le2 := same_upd (o := HO.lst (vs ++ [V.ref v1, V.ref v2])) h_le2
    have e_le2 := upd_same (H := H21) (a := le2) (o := HO.lst (vs ++ [V.ref v1, V.ref v2]))
    clear yB y_pg y_v1 y_v2 y_r2
    show tSeq _ _ _ [some (.int n), some (.int o), some (.int lo), some (.int br), some (.int v), some (.ref pa), some (.ref pb), some (.ref pd), some (.ref lr), some (.ref le2), none, none] (upd H21 le2 (HO.lst (vs ++ [V.ref v1, V.ref v2])))
    generalize upd H21 le2 (HO.lst (vs ++ [V.ref v1, V.ref v2])) = H22 at s_le2 e_le2 ⊢
    have z_le2 := Same.refl H22
    have z_r2 := s_le2.trans z_le2
    have z_v2 := s_r2.trans z_r2
    have z_v1 := s_v2.trans z_v2
    have z_pg := s_v1.trans z_v1
    have zB := s_pg.trans z_pg
    replace s0 := s0.trans zB
    replace xa := xa.tups (same_tups zB)
    replace xb := xb.tups (same_tups zB)
    replace xd := xd.tups (same_tups zB)
    replace er := zB _ _ er
    replace pr := prw_tups (same_tups zB) pr
    replace pv := pex_tups (same_tups zB) pv
    have pv' : Paired (fun v e => ExAt H22 e v) (vs ++ [V.ref v1, V.ref v2]) (ex1 ++ ex2 lo br) := paired_app pv (.cons ⟨v1, V.ref pg, V.ref pa, V.ref pb, rfl, z_v1 _ _ e_v1, ⟨pg, rfl, z_pg _ _ e_pg⟩, xa, xb⟩ (.cons ⟨v2, V.ref pa, rfl, z_v2 _ _ e_v2, xa⟩ .nil))
    have ev' := e_le2
    have lv := paired_len pv
    clear zB z_pg s_pg e_pg h_pg z_v1 s_v1 e_v1 h_v1 z_v2 s_v2 e_v2 h_v2 z_r2 s_r2 e_r2 h_r2 z_le2 s_le2 e_le2
    clear pv ev
    generalize vs ++ [V.ref v1, V.ref v2] = vs' at pv' ev'
    obtain ⟨vs, ev, pv⟩ : ∃ vs, H22 le2 = some (.lst vs) ∧ Paired (fun v e => ExAt H22 e v) vs (ex1 ++ ex2 lo br) := ⟨_, ev', pv'⟩
    clear ev' pv' vs' lv h_le2
    have lv := paired_len pv
    -- the joins
    refine ⟨_, rfl, ?_⟩
    refine ⟨_, rfl, _, rfl, ?_⟩
    refine ⟨y3, fun j1 h_j1 => ?_⟩
    have s_j1 := same_upd (o := HO.tup [V.str "join", V.ref pa, V.ref pd]) h_j1
    have e_j1 := upd_same (H := H22) (a := j1) (o := HO.tup [V.str "join", V.ref pa, V.ref pd])
    generalize upd H22 j1 (HO.tup [V.str "join", V.ref pa, V.ref pd]) = H23 at s_j1 e_j1 ⊢
    refine ⟨_, rfl, _, rfl, ?_⟩
    refine ⟨y3, fun j2 h_j2 => ?_⟩
    have s_j2 := same_upd (o := HO.tup [V.str "join", V.ref pd, V.ref pb]) h_j2
    have e_j2 := upd_same (H := H23) (a := j2) (o := HO.tup [V.str "join", V.ref pd, V.ref pb])
    generalize upd H23 j2 (HO.tup [V.str "join", V.ref pd, V.ref pb]) = H24 at s_j2 e_j2 ⊢
    refine ⟨y2, fun r0 h_r0 => ?_⟩
    have s_r0 := same_upd (o := HO.lst [V.ref j1, V.ref j2]) h_r0
    have e_r0 := upd_same (H := H24) (a := r0) (o := HO.lst [V.ref j1, V.ref j2])
    generalize upd H24 r0 (HO.lst [V.ref j1, V.ref j2]) = H25 at s_r0 e_r0 ⊢
    refine ⟨_, rfl, _, _, rfl, rfl, .inr ⟨_, rfl, _, _, rfl, rfl, .inl ⟨by decide, by decide⟩, _, rfl, r0, _, rfl, SqL.of e_r0, fun r3 h_r3 => ?_⟩⟩
    have s_r3 := same_upd (o := HO.lst (joinV j1 j2 o)) h_r3
    have e_r3 := upd_same (H := H25) (a := r3) (o := HO.lst (joinV j1 j2 o))
    show rCat (V.ref le2) (V.ref r3) (upd H25 r3 (HO.lst (joinV j1 j2 o))) _
    generalize upd H25 r3 (HO.lst (joinV j1 j2 o)) = H26 at s_r3 e_r3 ⊢
    have y_r3 := Same.refl H26
    have y_r0 := s_r3.trans y_r3
    have y_j2 := s_r0.trans y_r0
    have y_j1 := s_j2.trans y_j2
    have yB := s_j1.trans y_j1
    refine ⟨le2, r3, _, _, rfl, rfl, yB _ _ ev, y_r3 _ _ e_r3, zz _ (by rw [lv]; have := joinV_len j1 j2 o; show 9 + _ ≤ 30; omega), fun le3 h_le3 => ?_⟩
    have s_le3 := same_upd (o := HO.lst (vs ++ joinV j1 j2 o)) h_le3
    have e_le3 := upd_same (H := H26) (a := le3) (o := HO.lst (vs ++ joinV j1 j2 o))
    clear yB y_j1 y_j2 y_r0 y_r3
    show tSeq _ _ _ [some (.int n), some (.int o), some (.int lo), some (.int br), some (.int v), some (.ref pa), some (.ref pb), some (.ref pd), some (.ref lr), some (.ref le3), none, none] (upd H26 le3 (HO.lst (vs ++ joinV j1 j2 o)))
    generalize upd H26 le3 (HO.lst (vs ++ joinV j1 j2 o)) = H27 at s_le3 e_le3 ⊢
    have z_le3 := Same.refl H27
    have z_r3 := s_le3.trans z_le3
    have z_r0 := s_r3.trans z_r3
    have z_j2 := s_r0.trans z_r0
    have z_j1 := s_j2.trans z_j2
    have zB := s_j1.trans z_j1
    replace s0 := s0.trans zB
    replace xa := xa.tups (same_tups zB)
    replace xb := xb.tups (same_tups zB)
    replace xd := xd.tups (same_tups zB)
    replace er := zB _ _ er
    replace pr := prw_tups (same_tups zB) pr
    replace pv := pex_tups (same_tups zB) pv
    have pv' : Paired (fun v e => ExAt H27 e v) (vs ++ joinV j1 j2 o) (ex1 ++ ex2 lo br ++ ex3 o) := paired_app pv (joinV_ok ⟨j1, V.ref pa, V.ref pd, rfl, z_j1 _ _ e_j1, xa, xd⟩ ⟨j2, V.ref pd, V.ref pb, rfl, z_j2 _ _ e_j2, xd, xb⟩)
    have ev' := e_le3
    have lv := paired_len pv
    clear zB z_j1 s_j1 e_j1 h_j1 z_j2 s_j2 e_j2 h_j2 z_r0 s_r0 e_r0 h_r0 z_r3 s_r3 e_r3 h_r3 z_le3 s_le3 e_le3
    clear pv ev
    generalize vs ++ joinV j1 j2 o = vs' at pv' ev'
    obtain ⟨vs, ev, pv⟩ : ∃ vs, H27 le3 = some (.lst vs) ∧ Paired (fun v e => ExAt H27 e v) vs (ex1 ++ ex2 lo br ++ ex3 o) := ⟨_, ev', pv'⟩
    clear ev' pv' vs' lv h_le3
    have lv := paired_len pv
    have l3 : (ex1 ++ ex2 lo br ++ ex3 o).length ≤ 11 := by
      unfold ex3
      split <;> (simp [ex1, ex2])
    -- two more
    refine ⟨_, rfl, ?_⟩
    refine ⟨_, rfl, _, rfl, ?_⟩
    refine ⟨y3, fun w1 h_w1 => ?_⟩
    have s_w1 := same_upd (o := HO.tup [V.str "value", V.int v, V.int n]) h_w1
    have e_w1 := upd_same (H := H27) (a := w1) (o := HO.tup [V.str "value", V.int v, V.int n])
    generalize upd H27 w1 (HO.tup [V.str "value", V.int v, V.int n]) = H28 at s_w1 e_w1 ⊢
    refine ⟨_, rfl, ?_⟩
    refine ⟨_, rfl, _, rfl, ?_⟩
    refine ⟨y3, fun w2 h_w2 => ?_⟩
    have s_w2 := same_upd (o := HO.tup [V.str "value", V.int v, V.int n]) h_w2
    have e_w2 := upd_same (H := H28) (a := w2) (o := HO.tup [V.str "value", V.int v, V.int n])
    generalize upd H28 w2 (HO.tup [V.str "value", V.int v, V.int n]) = H29 at s_w2 e_w2 ⊢
    refine ⟨y3, fun w3 h_w3 => ?_⟩
    have s_w3 := same_upd (o := HO.tup [V.str "plus", V.ref pa, V.ref w2]) h_w3
    have e_w3 := upd_same (H := H29) (a := w3) (o := HO.tup [V.str "plus", V.ref pa, V.ref w2])
    generalize upd H29 w3 (HO.tup [V.str "plus", V.ref pa, V.ref w2]) = H30 at s_w3 e_w3 ⊢
    refine ⟨y2, fun w4 h_w4 => ?_⟩
    have s_w4 := same_upd (o := HO.tup [V.str "not", V.ref w3]) h_w4
    have e_w4 := upd_same (H := H30) (a := w4) (o := HO.tup [V.str "not", V.ref w3])
    generalize upd H30 w4 (HO.tup [V.str "not", V.ref w3]) = H31 at s_w4 e_w4 ⊢
    refine ⟨y2, fun r4 h_r4 => ?_⟩
    have s_r4 := same_upd (o := HO.lst [V.ref w1, V.ref w4]) h_r4
    have e_r4 := upd_same (H := H31) (a := r4) (o := HO.lst [V.ref w1, V.ref w4])
    generalize upd H31 r4 (HO.lst [V.ref w1, V.ref w4]) = H32 at s_r4 e_r4 ⊢
    have y_r4 := Same.refl H32
    have y_w4 := s_r4.trans y_r4
    have y_w3 := s_w4.trans y_w4
    have y_w2 := s_w3.trans y_w3
    have y_w1 := s_w2.trans y_w2
    have yB := s_w1.trans y_w1
    refine ⟨le3, r4, _, _, rfl, rfl, yB _ _ ev, y_r4 _ _ e_r4, zz _ (by rw [lv]; show _ + 2 ≤ 30; omega), fun le4 h_le4 => ?_⟩
    have s_le4 := same_upd (o := HO.lst (vs ++ [V.ref w1, V.ref w4])) h_le4
    have e_le4 := upd_same (H := H32) (a := le4) (o := HO.lst (vs ++ [V.ref w1, V.ref w4]))
    have nle : lr ≠ le4 := ne_of_none (yB _ _ er) h_le4
    have fle : H le4 = none := (s0.trans yB).free h_le4
    clear yB y_w1 y_w2 y_w3 y_w4 y_r4
    show tSeq _ _ _ [some (.int n), some (.int o), some (.int lo), some (.int br), some (.int v), some (.ref pa), some (.ref pb), some (.ref pd), some (.ref lr), some (.ref le4), none, none] (upd H32 le4 (HO.lst (vs ++ [V.ref w1, V.ref w4])))
    generalize upd H32 le4 (HO.lst (vs ++ [V.ref w1, V.ref w4])) = H33 at s_le4 e_le4 ⊢
    have z_le4 := Same.refl H33
    have z_r4 := s_le4.trans z_le4
    have z_w4 := s_r4.trans z_r4
    have z_w3 := s_w4.trans z_w4
    have z_w2 := s_w3.trans z_w3
    have z_w1 := s_w2.trans z_w2
    have zB := s_w1.trans z_w1
    replace s0 := s0.trans zB
    replace xa := xa.tups (same_tups zB)
    replace xb := xb.tups (same_tups zB)
    replace xd := xd.tups (same_tups zB)
    replace er := zB _ _ er
    replace pr := prw_tups (same_tups zB) pr
    replace pv := pex_tups (same_tups zB) pv
    have pv' : Paired (fun v e => ExAt H33 e v) (vs ++ [V.ref w1, V.ref w4]) (ex1 ++ ex2 lo br ++ ex3 o ++ ex4 v n) := paired_app pv (.cons ⟨w1, rfl, z_w1 _ _ e_w1⟩ (.cons ⟨w4, V.ref w3, rfl, z_w4 _ _ e_w4, w3, V.ref pa, V.ref w2, rfl, z_w3 _ _ e_w3, xa, w2, rfl, z_w2 _ _ e_w2⟩ .nil))
    have ev' := e_le4
    have lv := paired_len pv
    clear zB z_w1 s_w1 e_w1 h_w1 z_w2 s_w2 e_w2 h_w2 z_w3 s_w3 e_w3 h_w3 z_w4 s_w4 e_w4 h_w4 z_r4 s_r4 e_r4 h_r4 z_le4 s_le4 e_le4
    clear pv ev
    generalize vs ++ [V.ref w1, V.ref w4] = vs' at pv' ev'
    obtain ⟨vs, ev, pv⟩ : ∃ vs, H33 le4 = some (.lst vs) ∧ Paired (fun v e => ExAt H33 e v) vs (ex1 ++ ex2 lo br ++ ex3 o ++ ex4 v n) := ⟨_, ev', pv'⟩
    clear ev' pv' vs' lv
    have lv := paired_len pv
    have l4 : (ex1 ++ ex2 lo br ++ ex3 o ++ ex4 v n).length ≤ 13 := by
      rw [List.length_append]
      show _ + 2 ≤ 13
      omega
    -- append
    refine ⟨_, rfl, .inl ⟨rfl, vs, SqL.of ev⟩, ?_⟩
    refine ⟨_, rfl, _, rfl, ?_⟩
    refine ⟨y3, fun q1 h_q1 => ?_⟩
    have s_q1 := same_upd (o := HO.tup [V.str "less", V.ref pb, V.ref pa]) h_q1
    have e_q1 := upd_same (H := H33) (a := q1) (o := HO.tup [V.str "less", V.ref pb, V.ref pa])
    generalize upd H33 q1 (HO.tup [V.str "less", V.ref pb, V.ref pa]) = H34 at s_q1 e_q1 ⊢
    refine ⟨_, rfl, ?_⟩
    refine ⟨_, rfl, ?_⟩
    refine ⟨y2, fun q2 h_q2 => ?_⟩
    have s_q2 := same_upd (o := HO.tup [V.str "not", V.ref pb]) h_q2
    have e_q2 := upd_same (H := H34) (a := q2) (o := HO.tup [V.str "not", V.ref pb])
    generalize upd H34 q2 (HO.tup [V.str "not", V.ref pb]) = H35 at s_q2 e_q2 ⊢
    refine ⟨y3, fun q3 h_q3 => ?_⟩
    have s_q3 := same_upd (o := HO.tup [V.str "xor", V.ref pa, V.ref q2]) h_q3
    have e_q3 := upd_same (H := H35) (a := q3) (o := HO.tup [V.str "xor", V.ref pa, V.ref q2])
    generalize upd H35 q3 (HO.tup [V.str "xor", V.ref pa, V.ref q2]) = H36 at s_q3 e_q3 ⊢
    refine ⟨_, rfl, _, rfl, ?_⟩
    refine ⟨y3, fun q4 h_q4 => ?_⟩
    have s_q4 := same_upd (o := HO.tup [V.str "plus", V.ref pb, V.ref pb]) h_q4
    have e_q4 := upd_same (H := H36) (a := q4) (o := HO.tup [V.str "plus", V.ref pb, V.ref pb])
    generalize upd H36 q4 (HO.tup [V.str "plus", V.ref pb, V.ref pb]) = H37 at s_q4 e_q4 ⊢
    refine ⟨y4, fun q5 h_q5 => ?_⟩
    have s_q5 := same_upd (o := HO.tup [V.str "pick", V.ref q1, V.ref q3, V.ref q4]) h_q5
    have e_q5 := upd_same (H := H37) (a := q5) (o := HO.tup [V.str "pick", V.ref q1, V.ref q3, V.ref q4])
    generalize upd H37 q5 (HO.tup [V.str "pick", V.ref q1, V.ref q3, V.ref q4]) = H38 at s_q5 e_q5 ⊢
    have z_q5 := Same.refl H38
    have z_q4 := s_q5.trans z_q5
    have z_q3 := s_q4.trans z_q4
    have z_q2 := s_q3.trans z_q3
    have z_q1 := s_q2.trans z_q2
    have zB := s_q1.trans z_q1
    replace s0 := s0.trans zB
    replace xa := xa.tups (same_tups zB)
    replace xb := xb.tups (same_tups zB)
    replace xd := xd.tups (same_tups zB)
    replace er := zB _ _ er
    replace pr := prw_tups (same_tups zB) pr
    replace pv := pex_tups (same_tups zB) pv
    replace ev := zB _ _ ev
    have x5 : ExAt H38 (.pick (.bin .less xB xA) (.bin .xor xA (.not xB)) (.bin .plus xB xB)) (.ref q5) := ⟨q5, V.ref q1, V.ref q3, V.ref q4, rfl, z_q5 _ _ e_q5, ⟨q1, V.ref pb, V.ref pa, rfl, z_q1 _ _ e_q1, xb, xa⟩, ⟨q3, V.ref pa, V.ref q2, rfl, z_q3 _ _ e_q3, xa, q2, V.ref pb, rfl, z_q2 _ _ e_q2, xb⟩, ⟨q4, V.ref pb, V.ref pb, rfl, z_q4 _ _ e_q4, xb, xb⟩⟩
    clear zB z_q1 s_q1 e_q1 h_q1 z_q2 s_q2 e_q2 h_q2 z_q3 s_q3 e_q3 h_q3 z_q4 s_q4 e_q4 h_q4 z_q5 s_q5 e_q5 h_q5
    refine ⟨le4, vs, _, rfl, rfl, ev, small1000 (by omega), ?_⟩
    have kq : ∀ b ob, H38 b = some ob → b ≠ le4 → upd H38 le4 (HO.lst (vs ++ [V.ref q5])) b = some ob := fun b ob e h => (upd_ne h).trans e
    have tq : Tups H38 (upd H38 le4 (HO.lst (vs ++ [V.ref q5]))) := fun b ys e => kq b _ e (ne_of e ev (by intro z; cases z))
    have eq5 : upd H38 le4 (HO.lst (vs ++ [V.ref q5])) le4 = some (HO.lst (vs ++ [V.ref q5])) := upd_same
    show tSeq _ _ _ [some (.int n), some (.int o), some (.int lo), some (.int br), some (.int v), some (.ref pa), some (.ref pb), some (.ref pd), some (.ref lr), some (.ref le4), none, none] (upd H38 le4 (HO.lst (vs ++ [V.ref q5])))
    generalize upd H38 le4 (HO.lst (vs ++ [V.ref q5])) = Hn at kq tq eq5 ⊢
    have sn : Same H Hn := fun b ob e => kq b ob (s0 b ob e) (ne_of_none e fle)
    have ern := kq _ _ er nle
    have prn := prw_tups tq pr
    have pvn : Paired (fun v e => ExAt Hn e v) (vs ++ [V.ref q5]) (exsOf n o lo br v) := paired_app (pex_tups tq pv) (.cons (x5.tups tq) .nil)
    clear kq tq s0 er pr pv ev x5 xa xb xd lv l4 l3
    generalize vs ++ [V.ref q5] = xs at eq5 pvn
    have lx := paired_len pvn
    have l14 := exs_len n o lo br v
    have l4' := ins_len n o
    -- the rows of outs
    refine ⟨_, rfl, le4, xs, rfl, SqL.of eq5, ?_⟩
    refine for_it (walk_enum (xs := xs)) (fun i σ H' => (∃ z10 z11, σ = [some (.int n), some (.int o), some (.int lo), some (.int br), some (.int v), some (.ref pa), some (.ref pb), some (.ref pd), some (.ref lr), some (.ref le4), z10, z11]) ∧ Same H H' ∧ (∃ vr', H' lr = some (.lst vr') ∧ Paired (fun v r => RwAt H' r v) vr' (insOf n o ++ outsFrom 0 ((exsOf n o lo br v).take i))) ∧ H' le4 = some (.lst xs) ∧ Paired (fun v e => ExAt H' e v) xs (exsOf n o lo br v))
      ⟨⟨none, none, rfl⟩, sn, ⟨vr, ern, by rw [List.take_zero]; show Paired _ vr (insOf n o ++ []); rw [List.append_nil]; exact prn⟩, eq5, pvn⟩ (fun i σ H' _ ⟨_, _, _, g, _⟩ => SqL.of g) ?_ ?_
    · rintro i y σ H2 H3 hi ⟨⟨z10, z11, rfl⟩, s2, ⟨vr', er2, pr2⟩, el2, pe2⟩ ⟨t, x1, x2, rfl, ht, rfl, hx1, hx2⟩
      cases hx1
      obtain ⟨e, he, hE⟩ := paired_get pe2 hx2
      have s3 : Same H2 (upd H2 t (.tup [.int (i : Nat), x2])) := same_upd ht
      have l2 := paired_len pr2
      rw [List.length_append, outs_len, List.length_take] at l2
      refine ⟨t, _, rfl, SqT.of upd_same, rfl, _, _, rfl, _, _, rfl, rfl, ?_⟩
      refine ⟨_, rfl, .inl ⟨rfl, vr', SqL.of (s3 _ _ er2)⟩, _, rfl, _, (i : Int), _, rfl, rfl, by omega, by omega, ?_, item15 i (by omega), _, _, rfl, rfl, y2, _, rfl, y3, fun p hp => ?_⟩
      · show (i : Int) < 15
        omega
      have s4 := s3.trans (same_upd (o := HO.tup [V.str "out", V.str (nmOf i), x2]) hp)
      have nlp : lr ≠ p := ne_of_none (s3 _ _ er2) hp
      have nll : le4 ≠ lr := nle.symm
      refine ⟨lr, vr', _, rfl, rfl, (upd_ne nlp).trans (s3 _ _ er2), small1000 (by omega), ?_⟩
      have hlr : upd (upd H2 t (.tup [.int (i : Nat), x2])) p (HO.tup [V.str "out", V.str (nmOf i), x2]) lr = some (.lst vr') := s4 _ _ er2
      have hpp : upd (upd H2 t (.tup [.int (i : Nat), x2])) p (HO.tup [V.str "out", V.str (nmOf i), x2]) p = some (HO.tup [V.str "out", V.str (nmOf i), x2]) := upd_same
      have kq : ∀ b ob, (upd (upd H2 t (.tup [.int (i : Nat), x2])) p (HO.tup [V.str "out", V.str (nmOf i), x2])) b = some ob → b ≠ lr → upd (upd (upd H2 t (.tup [.int (i : Nat), x2])) p (HO.tup [V.str "out", V.str (nmOf i), x2])) lr (HO.lst (vr' ++ [V.ref p])) b = some ob := fun b ob e h => (upd_ne h).trans e
      have tq : Tups (upd (upd H2 t (.tup [.int (i : Nat), x2])) p (HO.tup [V.str "out", V.str (nmOf i), x2])) (upd (upd (upd H2 t (.tup [.int (i : Nat), x2])) p (HO.tup [V.str "out", V.str (nmOf i), x2])) lr (HO.lst (vr' ++ [V.ref p]))) := fun b ys e => kq b _ e (ne_of e hlr (by intro z; cases z))
      refine ⟨⟨_, _, rfl⟩, fun b ob e => kq b ob (s4 _ _ (s2 _ _ e)) (ne_of_none e flr), ⟨_, upd_same, ?_⟩, kq _ _ (s4 _ _ el2) nll, pex_tups tq (pex_tups (same_tups s4) pe2)⟩
      have eo := outs_snoc (exsOf n o lo br v) 0 i e he
      rw [Nat.zero_add] at eo
      rw [eo, ← List.append_assoc]
      exact paired_app (prw_tups tq (prw_tups (same_tups s4) pr2)) (.cons ⟨p, x2, rfl, tq _ _ hpp, (hE.tups (same_tups s4)).tups tq⟩ .nil)
    · rintro σ H2 ⟨⟨z10, z11, rfl⟩, s2, ⟨vr', er2, pr2⟩, el2, pe2⟩
      rw [lx, List.take_length] at pr2
      refine ⟨_, rfl, fun md dx nmd ndx nem => ?_⟩
      have s3 : Same H2 (upd (upd H2 dx (.own md)) md (.ins (ga K "Module") dx [])) := fun b o e => by
        rw [upd_ne (ne_of_none e nmd), upd_ne (ne_of_none e ndx)]
        exact e
      refine ⟨md, dx, lr, vr', rfl, upd_same, s3 _ _ er2, fun H4 tr g1 g2 k4 => ⟨rfl, ?_⟩⟩
      have s4 : Same H2 H4 := fun b ob e => k4 b ob (s3 _ _ e) (ne_of_none e nmd)
      refine q H4 md (s2.trans s4) ⟨dx, tr, vr', g1, g2, prw_tups (same_tups s4) pr2, ?_⟩
      show (insOf n o ++ outsFrom 0 (exsOf n o lo br v)).length ≤ 50
      rw [List.length_append, outs_len]
      omega
end
end K11
set_option maxHeartbeats 4000000
/-! The plain law: what the scene of the law's module tells at a row is what is due -/
namespace K11
open PySem PySem.Spec PyProof.Rows L2 He
theorem take_ne {α β : Type} {f : α → β} : ∀ {l : List α} {i : Nat} {a : α}, (l.map f).Nodup → l[i]? = some a → ∀ b ∈ l.take i, f b ≠ f a
  | [], _, _, _, h, _, _ => by simp at h
  | x :: l, 0, a, _, _, b, hb => by simp at hb
  | x :: l, i + 1, a, hn, hi, b, hb => by
    rw [List.map_cons, List.nodup_cons] at hn
    have hi' : l[i]? = some a := hi
    rcases List.mem_cons.mp (show b ∈ x :: l.take i from hb) with rfl | hb
    · intro e
      apply hn.1
      rw [e]
      exact List.mem_map.mpr ⟨a, List.mem_of_getElem? hi', rfl⟩
    · exact take_ne hn.2 hi' b hb
theorem ρ_none {x : Str} : ∀ {l : List (Str × Int × Nat)}, (∀ f ∈ l, f.1 ≠ x) → ρOf l x = none
  | [], _ => rfl
  | f :: l, h => by
    have h1 := h f List.mem_cons_self
    have ih := ρ_none (l := l) fun g hg => h g (List.mem_cons_of_mem _ hg)
    unfold ρOf at ih ⊢
    rw [List.find?_cons, decide_eq_false h1]
    exact ih
theorem ρ_some : ∀ {l : List (Str × Int × Nat)} {i : Nat} {f : Str × Int × Nat}, (l.map (·.1)).Nodup → l[i]? = some f → ρOf l f.1 = some f.2
  | [], _, _, _, h => by simp at h
  | g :: l, 0, f, _, h => by
    have e := Option.some.inj (show some g = some f from h)
    subst e
    unfold ρOf
    rw [List.find?_cons, decide_eq_true rfl]
    rfl
  | g :: l, i + 1, f, hn, h => by
    have h' : l[i]? = some f := h
    rw [List.map_cons, List.nodup_cons] at hn
    have ne : g.1 ≠ f.1 := fun e => hn.1 (by rw [e]; exact List.mem_map.mpr ⟨f, List.mem_of_getElem? h', rfl⟩)
    have ih := ρ_some (l := l) hn.2 h'
    unfold ρOf at ih ⊢
    rw [List.find?_cons, decide_eq_false ne]
    exact ih
theorem valV_none {x : Str} : ∀ {l : List (Str × Nat)}, (∀ f ∈ l, f.1 ≠ x) → valV (l.map fun p => ((Sum.inr p.1 : Key), V.int (p.2 : Nat))) (.inr x) = none
  | [], _ => rfl
  | f :: l, h => by
    rw [List.map_cons, valV_neg (fun z => h f List.mem_cons_self (Sum.inr.inj z))]
    exact valV_none fun g hg => h g (List.mem_cons_of_mem _ hg)
/-- rows of ins, then rows of outs -/
def rws (ip : List (Str × Nat)) (os : List (Str × Ex × Int × Nat)) : List Rw := (ip.map fun p => Rw.inn p.1 p.2) ++ os.map fun q => Rw.out q.1 q.2.1
theorem rws_at {ip : List (Str × Nat)} {os : List (Str × Ex × Int × Nat)} {i : Nat} {r : Rw} (h : (rws ip os)[i]? = some r) :
    (i < ip.length ∧ ∃ p, ip[i]? = some p ∧ r = .inn p.1 p.2) ∨ (ip.length ≤ i ∧ ∃ q, os[i - ip.length]? = some q ∧ r = .out q.1 q.2.1) := by
  unfold rws at h
  rw [List.getElem?_append, List.length_map] at h
  split at h
  · rename_i hi
    rw [List.getElem?_map] at h
    cases e : ip[i]? with
    | none => rw [e] at h; cases h
    | some p =>
      rw [e] at h
      exact .inl ⟨hi, p, rfl, (Option.some.inj h).symm⟩
  · rename_i hi
    rw [List.getElem?_map] at h
    cases e : os[i - ip.length]? with
    | none => rw [e] at h; cases h
    | some q =>
      rw [e] at h
      exact .inr ⟨by omega, q, rfl, (Option.some.inj h).symm⟩
def kvI (ip : List (Str × Nat)) : List (Key × V) := ip.map fun p => ((Sum.inr p.1 : Key), V.int (p.2 : Nat))
theorem sts_of {ip : List (Str × Nat)} {os : List (Str × Ex × Int × Nat)} (hn : (ip.map (·.1)).Nodup) (hw : ∀ p ∈ ip, 1 ≤ p.2 ∧ p.2 ≤ 16) (ho : (os.map (·.1)).Nodup) (hd : ∀ q ∈ os, Wd (kvI ip) q.2.1 q.2.2.2 ∧ q.2.1.dep < 4) (h0 : 0 < os.length) (hl1 : ip.length ≤ 50) (hl2 : os.length ≤ 50) :
    ∃ S : Sts, S.Ok (rws ip os) ∧ S.fi (rws ip os).length = ip := by
  have rl : (rws ip os).length = ip.length + os.length := by unfold rws; rw [List.length_append, List.length_map, List.length_map]
  refine ⟨⟨fun i => kvI (ip.take i), fun i => ip.take i, fun i => (os.take (i - ip.length)).map fun q => (q.1, q.2.2.2)⟩, ⟨?_, ?_, ?_, ?_, ?_, ?_, ?_, ?_⟩, ?_⟩
  · show kvI (ip.take 0) = []
    rw [List.take_zero]; rfl
  · show ip.take 0 = []
    exact List.take_zero
  · show List.map _ (os.take (0 - ip.length)) = []
    rw [Nat.zero_sub, List.take_zero]
    rfl
  · intro i r h
    rcases rws_at h with ⟨hi, p, hp, rfl⟩ | ⟨hi, q, hq, rfl⟩
    · have e1 : ip.take (i + 1) = ip.take i ++ [p] := by rw [List.take_add_one, hp]; rfl
      have e2 : i + 1 - ip.length = 0 := by omega
      have e3 : i - ip.length = 0 := by omega
      show RwOk (kvI (ip.take i)) (ip.take i) ((os.take (i - ip.length)).map _) _ (kvI (ip.take (i + 1))) (ip.take (i + 1)) ((os.take (i + 1 - ip.length)).map _)
      rw [e1, e2, e3]
      have e4 : kvI (ip.take i ++ [p]) = kvI (ip.take i) ++ [(Sum.inr p.1, V.int (p.2 : Nat))] := by unfold kvI; rw [List.map_append]; rfl
      rw [e4]
      exact RwOk.inn (valV_none (take_ne hn hp)) (hw p (List.mem_of_getElem? hp)).1 (hw p (List.mem_of_getElem? hp)).2
    · have e1 : ip.take i = ip := List.take_of_length_le hi
      have e2 : ip.take (i + 1) = ip := List.take_of_length_le (by omega)
      have e3 : i + 1 - ip.length = (i - ip.length) + 1 := by omega
      show RwOk (kvI (ip.take i)) (ip.take i) ((os.take (i - ip.length)).map _) _ (kvI (ip.take (i + 1))) (ip.take (i + 1)) ((os.take (i + 1 - ip.length)).map _)
      rw [e1, e2, e3, List.take_add_one, hq, List.map_append]
      have h1 := hd q (List.mem_of_getElem? hq)
      refine RwOk.out (n := q.2.2.2) h1.1 h1.2 fun f hf => ?_
      obtain ⟨g, hg, rfl⟩ := List.mem_map.mp hf
      exact take_ne ho hq g hg
  · intro i hi
    show (kvI (ip.take i)).length ≤ 100
    unfold kvI
    rw [List.length_map, List.length_take]
    omega
  · intro i hi
    show (ip.take i).length ≤ 100
    rw [List.length_take]
    omega
  · intro i hi
    show (List.map _ (os.take (i - ip.length))).length ≤ 100
    rw [List.length_map, List.length_take]
    omega
  · show List.map _ (os.take ((rws ip os).length - ip.length)) ≠ []
    rw [rl, Nat.add_sub_cancel_left, List.take_length]
    cases os with
    | nil => cases h0
    | cons a b => intro z; cases z
  · show ip.take (rws ip os).length = ip
    exact List.take_of_length_le (by omega)
theorem pls_of {nl : List (Str × Int × Nat)} {os : List (Str × Ex × Int × Nat)} (hn : (nl.map (·.1)).Nodup) (ho : (os.map (·.1)).Nodup) (hd : ∀ q ∈ os, Vl (ρOf nl) q.2.1 q.2.2.1 q.2.2.2 ∧ q.2.1.dep < 4) (hl1 : nl.length ≤ 50) (hl2 : os.length ≤ 50) :
    ∃ S : Pls, S.Ok (nl.map (·.2.1)) (rws (nl.map fun f => (f.1, f.2.2)) os) ∧ S.gl (rws (nl.map fun f => (f.1, f.2.2)) os).length = os.map fun q => (q.1, q.2.2.1, q.2.2.2) := by
  have rl : (rws (nl.map fun f => (f.1, f.2.2)) os).length = nl.length + os.length := by unfold rws; rw [List.length_append, List.length_map, List.length_map, List.length_map]
  refine ⟨⟨fun i => (nl.drop i).map (·.2.1), fun i => nl.take i, fun i => (os.take (i - nl.length)).map fun q => (q.1, q.2.2.1, q.2.2.2)⟩, ⟨?_, ?_, ?_, ?_, ?_, ?_⟩, ?_⟩
  · show (nl.drop 0).map _ = _
    rw [List.drop_zero]
  · show nl.take 0 = []
    exact List.take_zero
  · show List.map _ (os.take (0 - nl.length)) = []
    rw [Nat.zero_sub, List.take_zero]
    rfl
  · intro i r h
    rcases rws_at h with ⟨hi, p, hp, rfl⟩ | ⟨hi, q, hq, rfl⟩
    · rw [List.length_map] at hi
      obtain ⟨f, hf, rfl⟩ : ∃ f, nl[i]? = some f ∧ (f.1, f.2.2) = p := by
        rw [List.getElem?_map] at hp
        cases e : nl[i]? with
        | none => rw [e] at hp; cases hp
        | some f =>
          rw [e] at hp
          exact ⟨f, rfl, Option.some.inj hp⟩
      have e1 : nl.take (i + 1) = nl.take i ++ [f] := by rw [List.take_add_one, hf]; rfl
      have e2 : i + 1 - nl.length = 0 := by omega
      have e3 : i - nl.length = 0 := by omega
      have e5 : nl.drop i = f :: nl.drop (i + 1) := by
        have hlt : i < nl.length := hi
        rw [List.drop_eq_getElem_cons hlt]
        have : nl[i] = f := by
          have q := List.getElem?_eq_getElem hlt
          rw [q] at hf
          exact Option.some.inj hf
        rw [this]
      show PlOk ((nl.drop i).map _) (nl.take i) ((os.take (i - nl.length)).map _) _ ((nl.drop (i + 1)).map _) (nl.take (i + 1)) ((os.take (i + 1 - nl.length)).map _)
      rw [e1, e2, e3, e5, List.map_cons]
      exact PlOk.inn (ρ_none (take_ne hn hf))
    · rw [List.length_map] at hi hq
      have e1 : nl.take i = nl := List.take_of_length_le hi
      have e2 : nl.take (i + 1) = nl := List.take_of_length_le (by omega)
      have e3 : i + 1 - nl.length = (i - nl.length) + 1 := by omega
      have e4 : nl.drop i = [] := List.drop_eq_nil_of_le hi
      have e5 : nl.drop (i + 1) = [] := List.drop_eq_nil_of_le (by omega)
      show PlOk ((nl.drop i).map _) (nl.take i) ((os.take (i - nl.length)).map _) _ ((nl.drop (i + 1)).map _) (nl.take (i + 1)) ((os.take (i + 1 - nl.length)).map _)
      rw [e1, e2, e3, e4, e5, List.take_add_one, hq, List.map_append]
      have h1 := hd q (List.mem_of_getElem? hq)
      refine PlOk.out (a := q.2.2.1) (n := q.2.2.2) h1.1 h1.2 (ρ_none fun f hf => ?_)
      obtain ⟨g, hg, rfl⟩ := List.mem_map.mp hf
      exact take_ne ho hq g hg
  · intro i hi
    show (nl.take i).length ≤ 100
    rw [List.length_take]
    omega
  · intro i hi
    show (List.map _ (os.take (i - nl.length))).length ≤ 100
    rw [List.length_map, List.length_take]
    omega
  · show List.map _ (os.take ((rws (nl.map fun f => (f.1, f.2.2)) os).length - nl.length)) = _
    rw [rl, Nat.add_sub_cancel_left, List.take_length]
end K11
set_option maxHeartbeats 4000000
/-! The plain law at the law's own module -/
namespace K11
open PySem PySem.Spec PyProof.Rows L2 He
theorem fa_nil {α : Type} {P : α → Prop} : ∀ q ∈ ([] : List α), P q := fun _ h => nomatch h
theorem fa_cons {α : Type} {P : α → Prop} {a : α} {l : List α} (h : P a) (t : ∀ q ∈ l, P q) : ∀ q ∈ a :: l, P q := List.forall_mem_cons.mpr ⟨h, t⟩
theorem fa_app {α : Type} {P : α → Prop} {l m : List α} (h : ∀ q ∈ l, P q) (t : ∀ q ∈ m, P q) : ∀ q ∈ l ++ m, P q := fun q hq => (List.mem_append.mp hq).elim (h q) (t q)
/-- the ins with their values -/
def nlOf (a b c d : Int) (n o : Nat) : List (Str × Int × Nat) := [(("m" : Str), a, n), (("c" : Str), b, n), (("g" : Str), c, 1)] ++ if 0 < o then [(("a" : Str), d, o)] else []
/-- the outs: name, expression, value, width -/
def os1 (a b c : Int) (n lo br : Nat) : List (Str × Ex × Int × Nat) :=
  [(nmOf 0, .not xA, 2 ^ n - 1 - a, n), (nmOf 1, .bin .and xA xB, Builtin.bitAnd a b, n), (nmOf 2, .bin .or xA xB, Builtin.bitOr a b, n), (nmOf 3, .bin .xor xA xB, Builtin.bitXor a b, n), (nmOf 4, .bin .plus xA xB, (a + b) % 2 ^ n, n),
   (nmOf 5, .bin .less xA xB, if a < b then 1 else 0, 1), (nmOf 6, .bin .same xA xB, if a = b then 1 else 0, 1), (nmOf 7, .pick (.nm "g") xA xB, if c = 1 then a else b, n), (nmOf 8, .part xA lo br, a / 2 ^ lo % 2 ^ br, br)]
def os2 (a b d : Int) (n o : Nat) : List (Str × Ex × Int × Nat) := [(nmOf 9, .bin .join xA xD, a * 2 ^ o + d, n + o), (nmOf 10, .bin .join xD xB, d * 2 ^ n + b, o + n)]
def os3 (k : Nat) (a b v : Int) (n : Nat) : List (Str × Ex × Int × Nat) :=
  [(nmOf k, .val v n, v, n), (nmOf (k + 1), .not (.bin .plus xA (.val v n)), 2 ^ n - 1 - (a + v) % 2 ^ n, n), (nmOf (k + 2), .pick (.bin .less xB xA) (.bin .xor xA (.not xB)) (.bin .plus xB xB), if b < a then Builtin.bitXor a (2 ^ n - 1 - b) else (b + b) % 2 ^ n, n)]
def osOf (a b c d : Int) (n o lo br : Nat) (v : Int) : List (Str × Ex × Int × Nat) := if 0 < o then os1 a b c n lo br ++ os2 a b d n o ++ os3 11 a b v n else os1 a b c n lo br ++ os3 9 a b v n
theorem rows_eq (a b c d : Int) (n o lo br : Nat) (v : Int) : rowsOf n o lo br v = rws ((nlOf a b c d n o).map fun f => (f.1, f.2.2)) (osOf a b c d n o lo br v) := by
  unfold rowsOf insOf exsOf ex3 nlOf osOf
  by_cases h : 0 < o
  · rw [if_pos h, if_pos h, if_pos h, if_pos h]
    rfl
  · rw [if_neg h, if_neg h, if_neg h, if_neg h]
    rfl
theorem vals_eq (a b c d : Int) (n o lo br : Nat) (v : Int) : (osOf a b c d n o lo br v).map (fun q => q.2.2.1) = dueL a b c d n o lo br v := by
  unfold osOf dueL
  by_cases h : 0 < o
  · rw [if_pos h, if_pos h]
    rfl
  · rw [if_neg h, if_neg h]
    rfl
theorem os_nd (a b c d : Int) (n o lo br : Nat) (v : Int) : ((osOf a b c d n o lo br v).map (·.1)).Nodup := by
  unfold osOf
  by_cases h : 0 < o
  · rw [if_pos h]
    show ([nmOf 0, nmOf 1, nmOf 2, nmOf 3, nmOf 4, nmOf 5, nmOf 6, nmOf 7, nmOf 8, nmOf 9, nmOf 10, nmOf 11, nmOf 12, nmOf 13] : List Str).Nodup
    decide +kernel
  · rw [if_neg h]
    show ([nmOf 0, nmOf 1, nmOf 2, nmOf 3, nmOf 4, nmOf 5, nmOf 6, nmOf 7, nmOf 8, nmOf 9, nmOf 10, nmOf 11] : List Str).Nodup
    decide +kernel
theorem os_len (a b c d : Int) (n o lo br : Nat) (v : Int) : 0 < (osOf a b c d n o lo br v).length ∧ (osOf a b c d n o lo br v).length ≤ 14 := by
  unfold osOf
  by_cases h : 0 < o
  · rw [if_pos h]
    exact ⟨(by decide : 0 < 14), (by decide : 14 ≤ 14)⟩
  · rw [if_neg h]
    exact ⟨(by decide : 0 < 12), (by decide : 12 ≤ 14)⟩
theorem nl_nd (a b c d : Int) (n o : Nat) : ((nlOf a b c d n o).map (·.1)).Nodup := by
  unfold nlOf
  by_cases h : 0 < o
  · rw [if_pos h]
    show (["m", "c", "g", "a"] : List Str).Nodup
    decide +kernel
  · rw [if_neg h]
    show (["m", "c", "g"] : List Str).Nodup
    decide +kernel
theorem nl_len (a b c d : Int) (n o : Nat) : (nlOf a b c d n o).length ≤ 4 := by
  unfold nlOf
  by_cases h : 0 < o
  · rw [if_pos h]
    exact (by decide : 4 ≤ 4)
  · rw [if_neg h]
    exact (by decide : 3 ≤ 4)
/-- what the law's module is made of -/
structure Par (n o lo br : Nat) (v : Int) : Prop where
  n1 : 1 ≤ n
  n16 : n ≤ 16
  no : n + o ≤ 16
  br1 : 1 ≤ br
  lb : lo + br ≤ n
  v0 : 0 ≤ v
  v1 : v < 2 ^ n
structure RowOk (a b c d : Int) (n o : Nat) : Prop where
  a0 : 0 ≤ a
  a1 : a < 2 ^ n
  b0 : 0 ≤ b
  b1 : b < 2 ^ n
  c0 : 0 ≤ c
  c1 : c < 2
  d0 : 0 ≤ d
  d1 : d < 2 ^ o
theorem widths {n o lo br : Nat} {v : Int} (h : Par n o lo br v) (a b c d : Int) : ∀ q ∈ osOf a b c d n o lo br v, Wd (kvI ((nlOf a b c d n o).map fun f => (f.1, f.2.2))) q.2.1 q.2.2.2 ∧ q.2.1.dep < 4 := by
  obtain ⟨n1, n16, no, br1, lb, v0, v1⟩ := h
  have wA : Wd (kvI ((nlOf a b c d n o).map fun f => (f.1, f.2.2))) xA n := .nm (by unfold nlOf; rfl) ⟨n1, n16⟩
  have wB : Wd (kvI ((nlOf a b c d n o).map fun f => (f.1, f.2.2))) xB n := .nm (by unfold nlOf; rfl) ⟨n1, n16⟩
  have wG : Wd (kvI ((nlOf a b c d n o).map fun f => (f.1, f.2.2))) (.nm "g") 1 := .nm (by unfold nlOf; rfl) ⟨by decide, by decide⟩
  generalize hkv : kvI ((nlOf a b c d n o).map fun f => (f.1, f.2.2)) = kv at wA wB wG
  have bin : ∀ op : Op2, op ≠ .join → Wd kv (.bin op xA xB) (op.wd n n) := fun op ho => .bin wA wB (fun e => absurd e ho) (fun _ => rfl)
  have hv : Wd kv (.val v n) n := .val n1 n16 v0 v1
  have h1 : ∀ q ∈ os1 a b c n lo br, Wd kv q.2.1 q.2.2.2 ∧ q.2.1.dep < 4 :=
    fa_cons ⟨.not wA, by simp [Ex.dep, xA, xB]⟩ <| fa_cons ⟨bin .and (fun e => nomatch e), by simp [Ex.dep, xA, xB]⟩ <| fa_cons ⟨bin .or (fun e => nomatch e), by simp [Ex.dep, xA, xB]⟩ <| fa_cons ⟨bin .xor (fun e => nomatch e), by simp [Ex.dep, xA, xB]⟩ <| fa_cons ⟨bin .plus (fun e => nomatch e), by simp [Ex.dep, xA, xB]⟩ <|
    fa_cons ⟨bin .less (fun e => nomatch e), by simp [Ex.dep, xA, xB]⟩ <| fa_cons ⟨bin .same (fun e => nomatch e), by simp [Ex.dep, xA, xB]⟩ <| fa_cons ⟨.pick wG wA wB, by simp [Ex.dep, xA, xB]⟩ <| fa_cons ⟨.part wA br1 lb, by simp [Ex.dep, xA, xB]⟩ fa_nil
  have h3 : ∀ k, ∀ q ∈ os3 k a b v n, Wd kv q.2.1 q.2.2.2 ∧ q.2.1.dep < 4 := fun k =>
    fa_cons ⟨hv, by simp [Ex.dep]⟩ <| fa_cons ⟨.not (Wd.bin (o := .plus) wA hv (fun e => nomatch e) (fun _ => rfl)), by simp [Ex.dep, xA, xB]⟩ <|
    fa_cons ⟨.pick (Wd.bin (o := .less) wB wA (fun e => nomatch e) (fun _ => rfl)) (Wd.bin (o := .xor) wA (.not wB) (fun e => nomatch e) (fun _ => rfl)) (Wd.bin (o := .plus) wB wB (fun e => nomatch e) (fun _ => rfl)), by simp [Ex.dep, xA, xB]⟩ fa_nil
  unfold osOf
  by_cases ho : 0 < o
  · rw [if_pos ho]
    have wD : Wd kv xD o := by
      rw [← hkv]
      refine .nm ?_ ⟨ho, by omega⟩
      unfold nlOf
      rw [if_pos ho]
      rfl
    have h2 : ∀ q ∈ os2 a b d n o, Wd kv q.2.1 q.2.2.2 ∧ q.2.1.dep < 4 :=
      fa_cons ⟨Wd.bin (o := .join) wA wD (fun _ => no) (fun e => absurd rfl e), by simp [Ex.dep, xA, xD]⟩ <| fa_cons ⟨Wd.bin (o := .join) wD wB (fun _ => by omega) (fun e => absurd rfl e), by simp [Ex.dep, xB, xD]⟩ fa_nil
    exact fa_app (fa_app h1 h2) (h3 11)
  · rw [if_neg ho]
    exact fa_app h1 (h3 9)
theorem values {n o lo br : Nat} {v : Int} (h : Par n o lo br v) {a b c d : Int} (r : RowOk a b c d n o) : ∀ q ∈ osOf a b c d n o lo br v, Vl (ρOf (nlOf a b c d n o)) q.2.1 q.2.2.1 q.2.2.2 ∧ q.2.1.dep < 4 := by
  intro q hq
  refine ⟨?_, (widths h a b c d q hq).2⟩
  revert q
  obtain ⟨n1, n16, no, br1, lb, v0, v1⟩ := h
  obtain ⟨a0, a1, b0, b1, c0, c1, d0, d1⟩ := r
  have p16 := p2_16 n16
  have wA : Vl (ρOf (nlOf a b c d n o)) xA a n := .nm (by unfold nlOf; rfl)
  have wB : Vl (ρOf (nlOf a b c d n o)) xB b n := .nm (by unfold nlOf; rfl)
  have wG : Vl (ρOf (nlOf a b c d n o)) (.nm "g") c 1 := .nm (by unfold nlOf; rfl)
  generalize hkv : ρOf (nlOf a b c d n o) = ρ at wA wB wG
  have bin : ∀ op : Op2, Vl ρ (.bin op xA xB) (op.val a n b n) (op.wd n n) := fun op => .bin wA wB n16 n16 (by omega) (by omega)
  have h1 : ∀ q ∈ os1 a b c n lo br, Vl ρ q.2.1 q.2.2.1 q.2.2.2 := by
    refine fa_cons (.not wA n16) <| fa_cons (bin .and) <| fa_cons (bin .or) <| fa_cons (bin .xor) <| fa_cons (bin .plus) <| fa_cons (bin .less) <| fa_cons (bin .same) <| fa_cons ?_ <| fa_cons (.part wA (by omega) (by omega)) fa_nil
    show Vl ρ (.pick (.nm "g") xA xB) (if c = 1 then a else b) n
    by_cases hc : c = 1
    · rw [if_pos hc]
      subst hc
      exact .pick1 wG wA
    · rw [if_neg hc]
      exact .pick0 wG hc wB
  have h3 : ∀ k, ∀ q ∈ os3 k a b v n, Vl ρ q.2.1 q.2.2.1 q.2.2.2 := fun k => by
    refine fa_cons .val <| fa_cons (.not (Vl.bin (o := .plus) wA .val n16 n16 (by omega) (by omega)) n16) <| fa_cons ?_ fa_nil
    show Vl ρ (.pick (.bin .less xB xA) (.bin .xor xA (.not xB)) (.bin .plus xB xB)) (if b < a then Builtin.bitXor a (2 ^ n - 1 - b) else (b + b) % 2 ^ n) n
    have g : Vl ρ (.bin .less xB xA) (if b < a then 1 else 0) 1 := Vl.bin (o := .less) wB wA n16 n16 (by omega) (by omega)
    by_cases hc : b < a
    · rw [if_pos hc] at g ⊢
      exact .pick1 g (Vl.bin (o := .xor) wA (.not wB n16) n16 n16 (by omega) (by omega))
    · rw [if_neg hc] at g ⊢
      exact .pick0 g (by decide) (Vl.bin (o := .plus) wB wB n16 n16 (by omega) (by omega))
  unfold osOf
  by_cases ho : 0 < o
  · rw [if_pos ho]
    have wD : Vl ρ xD d o := by
      rw [← hkv]
      refine .nm ?_
      unfold nlOf
      rw [if_pos ho]
      rfl
    have o16 : o ≤ 16 := by omega
    have q16 := p2_16 o16
    have h2 : ∀ q ∈ os2 a b d n o, Vl ρ q.2.1 q.2.2.1 q.2.2.2 :=
      fa_cons (Vl.bin (o := .join) wA wD n16 o16 (by omega) (by omega)) <| fa_cons (Vl.bin (o := .join) wD wB o16 n16 (by omega) (by omega)) fa_nil
    exact fa_app (fa_app h1 h2) (h3 11)
  · rw [if_neg ho]
    exact fa_app h1 (h3 9)
/-- the ins' faces -/
def fiOf (n o : Nat) : List (Str × Nat) := [(("m" : Str), n), (("c" : Str), n), (("g" : Str), 1)] ++ if 0 < o then [(("a" : Str), o)] else []
/-- a row of inputs -/
def wsOf (a b c d : Int) (o : Nat) : List Int := [a, b, c] ++ if 0 < o then [d] else []
theorem fi_eq (a b c d : Int) (n o : Nat) : (nlOf a b c d n o).map (fun f => (f.1, f.2.2)) = fiOf n o := by
  unfold nlOf fiOf
  by_cases h : 0 < o
  · rw [if_pos h, if_pos h]
    rfl
  · rw [if_neg h, if_neg h]
    rfl
theorem ws_eq (a b c d : Int) (n o : Nat) : (nlOf a b c d n o).map (·.2.1) = wsOf a b c d o := by
  unfold nlOf wsOf
  by_cases h : 0 < o
  · rw [if_pos h, if_pos h]
    rfl
  · rw [if_neg h, if_neg h]
    rfl
/-- THE SENSE: the module's rows have it -/
theorem sense {n o lo br : Nat} {v : Int} (h : Par n o lo br v) : ∃ S : Sts, S.Ok (rowsOf n o lo br v) ∧ S.fi (rowsOf n o lo br v).length = fiOf n o := by
  have ln := nl_len 0 0 0 0 n o
  have lo' := os_len 0 0 0 0 n o lo br v
  have hw : ∀ p ∈ (nlOf 0 0 0 0 n o).map (fun f => (f.1, f.2.2)), 1 ≤ p.2 ∧ p.2 ≤ 16 := by
    have g1 := h.n1
    have g2 := h.n16
    have g3 := h.no
    rw [fi_eq]
    unfold fiOf
    refine fa_app (fa_cons ⟨g1, g2⟩ <| fa_cons ⟨g1, g2⟩ <| fa_cons ⟨by decide, by decide⟩ fa_nil) ?_
    by_cases ho : 0 < o
    · rw [if_pos ho]
      exact fa_cons ⟨ho, by show o ≤ 16; omega⟩ fa_nil
    · rw [if_neg ho]
      exact fa_nil
  obtain ⟨S, h1, h2⟩ := sts_of (ip := (nlOf 0 0 0 0 n o).map fun f => (f.1, f.2.2)) (os := osOf 0 0 0 0 n o lo br v) (by rw [List.map_map]; exact nl_nd 0 0 0 0 n o) hw (os_nd 0 0 0 0 n o lo br v) (widths h 0 0 0 0) lo'.1 (by rw [List.length_map]; omega) (by omega)
  rw [← rows_eq, fi_eq] at h2
  rw [← rows_eq] at h1
  exact ⟨S, h1, h2⟩
/-- THE BEAT: what is told is what is due -/
theorem beat_due {n o lo br : Nat} {v : Int} (h : Par n o lo br v) {a b c d : Int} (r : RowOk a b c d n o) :
    ∃ S : Pls, S.Ok (wsOf a b c d o) (rowsOf n o lo br v) ∧ RowIn (wsOf a b c d o) (fiOf n o) ∧ (∀ (i : Nat) (f : Str × Int × Nat), (S.gl (rowsOf n o lo br v).length)[i]? = some f → ρOf (S.gl (rowsOf n o lo br v).length) f.1 = some f.2) ∧
      (S.gl (rowsOf n o lo br v).length).length ≤ 100 ∧ (S.gl (rowsOf n o lo br v).length).map (fun g => V.int g.2.1) = (dueL a b c d n o lo br v).map V.int := by
  have ln := nl_len a b c d n o
  have lo' := os_len a b c d n o lo br v
  obtain ⟨S, h1, h2⟩ := pls_of (nl := nlOf a b c d n o) (os := osOf a b c d n o lo br v) (nl_nd a b c d n o) (os_nd a b c d n o lo br v) (values h r) (by omega) (by omega)
  rw [← rows_eq] at h1 h2
  rw [ws_eq] at h1
  refine ⟨S, h1, ⟨?_, ?_⟩, ?_, ?_, ?_⟩
  · unfold wsOf fiOf
    by_cases ho : 0 < o
    · rw [if_pos ho, if_pos ho]
      rfl
    · rw [if_neg ho, if_neg ho]
      rfl
  · intro i w f hw hf
    obtain ⟨n1, n16, no, br1, lb, v0, v1⟩ := h
    obtain ⟨a0, a1, b0, b1, c0, c1, d0, d1⟩ := r
    unfold wsOf at hw
    unfold fiOf at hf
    match i, hw, hf with
    | 0, hw, hf =>
      cases hw
      cases hf
      exact ⟨a0, a1, n16⟩
    | 1, hw, hf =>
      cases hw
      cases hf
      exact ⟨b0, b1, n16⟩
    | 2, hw, hf =>
      cases hw
      cases hf
      exact ⟨c0, c1, by decide⟩
    | 3, hw, hf =>
      by_cases ho : 0 < o
      · rw [if_pos ho] at hw hf
        cases hw
        cases hf
        exact ⟨d0, d1, by show o ≤ 16; omega⟩
      · rw [if_neg ho] at hw
        cases hw
    | i + 4, hw, hf =>
      by_cases ho : 0 < o
      · rw [if_pos ho] at hw
        cases hw
      · rw [if_neg ho] at hw
        cases hw
  · intro i f hf
    refine ρ_some ?_ hf
    rw [h2, List.map_map]
    exact os_nd a b c d n o lo br v
  · rw [h2, List.length_map]
    omega
  · rw [h2, ← vals_eq, List.map_map, List.map_map]
    rfl
end K11
set_option maxHeartbeats 4000000
/-! The law -/
namespace K11
open PySem PySem.Spec PyProof.Rows L2 He
theorem kp_tups {K : PySem.W.Frag} {H H' : Hp} {a p : Addr} {ns : List Int} {n : Nat} (h : LwAt K H a p ns n) (k : Kp H H' p) : Tups H H' := fun b xs e => k b _ e (ne_of e h.ctr (by intro z; cases z))
theorem MdAt.kp {K : PySem.W.Frag} {H H' : Hp} {a p md : Addr} {ns : List Int} {n : Nat} {rows : List Rw} (h : LwAt K H a p ns n) (k : Kp H H' p) (m : MdAt K H md rows) : MdAt K H' md rows := by
  obtain ⟨dx, tr, vs, h1, h2, h3, h4⟩ := m
  exact ⟨dx, tr, vs, k _ _ h1 (ne_of h1 h.ctr (by intro z; cases z)), k _ _ h2 (ne_of h2 h.ctr (by intro z; cases z)), prw_tups (kp_tups h k) h3, h4⟩
theorem SceneAt.kp {K : PySem.W.Frag} {H H' : Hp} {a p sn md : Addr} {ns : List Int} {n : Nat} {f : Str × Nat} {fi : List (Str × Nat)} (h : LwAt K H a p ns n) (k : Kp H H' p) (m : SceneAt K H sn md (f :: fi)) : SceneAt K H' sn md (f :: fi) := by
  obtain ⟨dx, li, un, vi, h1, h2, h3, du, x1, x2, x3, u1, u2, u3, u4⟩ := m
  have nl : li ≠ p := ne_of h2 h.ctr (fun z => by
    injection z with z
    rw [z] at h3
    cases h3 with
    | cons g _ =>
      obtain ⟨t, e, _⟩ := g
      cases e)
  exact ⟨dx, li, un, vi, k _ _ h1 (ne_of h1 h.ctr (by intro z; cases z)), k _ _ h2 nl, h3.tups (kp_tups h k), du, x1, x2, x3, k _ _ u1 (ne_of u1 h.ctr (by intro z; cases z)), k _ _ u2 (ne_of u2 h.ctr (by intro z; cases z)), k _ _ u3 (ne_of u3 h.ctr (by intro z; cases z)), k _ _ u4 (ne_of u4 h.ctr (by intro z; cases z))⟩
theorem MdAt.kl {K : PySem.W.Frag} {H H' : Hp} {rl md : Addr} {xs : List V} {rows : List Rw} (h : H rl = some (.lst xs)) (k : Kp H H' rl) (m : MdAt K H md rows) : MdAt K H' md rows := by
  obtain ⟨dx, tr, vs, h1, h2, h3, h4⟩ := m
  exact ⟨dx, tr, vs, k _ _ h1 (ne_of h1 h (by intro z; cases z)), k _ _ h2 (ne_of h2 h (by intro z; cases z)), prw_tups (fun b ys e => k b _ e (ne_of e h (by intro z; cases z))) h3, h4⟩
theorem SceneAt.kl {K : PySem.W.Frag} {H H' : Hp} {rl sn md : Addr} {x : Int} {xs : List V} {f : Str × Nat} {fi : List (Str × Nat)} (h : H rl = some (.lst (V.int x :: xs))) (k : Kp H H' rl) (m : SceneAt K H sn md (f :: fi)) : SceneAt K H' sn md (f :: fi) := by
  obtain ⟨dx, li, un, vi, h1, h2, h3, du, x1, x2, x3, u1, u2, u3, u4⟩ := m
  have nl : li ≠ rl := ne_of h2 h (fun z => by
    injection z with z
    rw [z] at h3
    cases h3 with
    | cons g _ =>
      obtain ⟨t, e, _⟩ := g
      cases e)
  exact ⟨dx, li, un, vi, k _ _ h1 (ne_of h1 h (by intro z; cases z)), k _ _ h2 nl, h3.tups (fun b ys e => k b _ e (ne_of e h (by intro z; cases z))), du, x1, x2, x3, k _ _ u1 (ne_of u1 h (by intro z; cases z)), k _ _ u2 (ne_of u2 h (by intro z; cases z)), k _ _ u3 (ne_of u3 h (by intro z; cases z)), k _ _ u4 (ne_of u4 h (by intro z; cases z))⟩
/-- the two checks of a beat -/
def tCheck (K : PySem.W.Frag) : TS :=
  tSeq (tIfS (tNot (tB (tCall (spS true) [] E0 (tCons (tMeth (ga K "Scene") "beat" (spBeat K) [] E0 (tVar 10) (tCons (tVar 12) tNil)) (tCons (tCall spDue [] E0 (tCons (tVar 12) (tCons (tVar 4) (tCons (tVar 5) (tCons (tVar 6) (tCons (tVar 7) (tCons (tVar 9) tNil))))))) tNil))))) (tRet (tC (.bl false))) tNext)
    (tIfS (tNot (tB (tCall (spS true) [] E0 (tCons (tMeth (ga K "Scene") "held" (spHeld K) [] E0 (tVar 10) tNil) (tCons (tLst tNil) tNil))))) (tRet (tC (.bl false))) tNext)
theorem dueL_len (a b c d : Int) (n o lo br : Nat) (v : Int) : (dueL a b c d n o lo br v).length ≤ 14 := by
  unfold dueL
  by_cases h : 0 < o
  · rw [if_pos h]
    exact (by decide : 14 ≤ 14)
  · rw [if_neg h]
    exact (by decide : 12 ≤ 14)
theorem ws_take (a b c d : Int) (o : Nat) (h : o = 0 → d = 0) : (wsOf a b c d o ++ [0]).take 4 = [a, b, c, d] := by
  unfold wsOf
  by_cases ho : 0 < o
  · rw [if_pos ho]
    rfl
  · rw [if_neg ho, h (by omega)]
    rfl
theorem ws_len (a b c d : Int) (o : Nat) : (wsOf a b c d o).length ≤ 4 := by
  unfold wsOf
  by_cases h : 0 < o
  · rw [if_pos h]
    exact (by decide : 4 ≤ 4)
  · rw [if_neg h]
    exact (by decide : 3 ≤ 4)
theorem check_ok {K : PySem.W.Frag} {H : Hp} {sn md rl : Addr} {n o lo br : Nat} {v a b c d : Int} {x0 x1 x2 x3 x8 x11 : Option V} {nx bk ct : L2.St → Hp → Prop} {Q : VK} (hP : Par n o lo br v) (hR : RowOk a b c d n o) (hd : o = 0 → d = 0) (hS : SceneAt K H sn md (fiOf n o)) (hM : MdAt K H md (rowsOf n o lo br v)) (hrl : H rl = some (.lst ((wsOf a b c d o).map V.int)))
    (q : ∀ H', Same H H' → nx [x0, x1, x2, x3, some (.int n), some (.int o), some (.int lo), some (.int br), x8, some (.int v), some (.ref sn), x11, some (.ref rl)] H') :
    tCheck K ⟨nx, Q, bk, ct⟩ [x0, x1, x2, x3, some (.int n), some (.int o), some (.int lo), some (.int br), x8, some (.int v), some (.ref sn), x11, some (.ref rl)] H := by
  obtain ⟨S, g1, g2, g3, g4, g5⟩ := beat_due hP hR
  obtain ⟨dx, li, un, vi, s1, s2, s3, s4⟩ := id hS
  have hp1 := hP.n16
  have hp2 := hP.no
  have hp3 := hP.lb
  refine ⟨_, rfl, sn, dx, _, rfl, s1, rfl, _, rfl, sn, md, rl, fiOf n o, wsOf a b c d o, rowsOf n o lo br v, S, rfl, hS, hM, hrl, g2, g1, g3, g4, fun H1 l1 k1 e1 => ?_⟩
  rw [g5] at e1
  refine ⟨_, rfl, _, rfl, _, rfl, _, rfl, _, rfl, _, rfl, rl, wsOf a b c d o, a, b, c, d, n, o, lo, br, v, rfl, k1 _ _ hrl, ws_len a b c d o, ws_take a b c d o hd, hp1, by omega, by omega, by omega, fun H2 l2 k2 e2 => ?_⟩
  refine .inr ⟨rfl, l1, l2, dueL a b c d n o lo br v, rfl, k2 _ _ e1, e2, Nat.le_trans (dueL_len a b c d n o lo br v) (by decide), fun H3 k3 => ?_⟩
  have k123 := k1.trans (k2.trans k3)
  refine ⟨_, rfl, iteF ?_⟩
  refine ⟨_, rfl, sn, dx, _, rfl, k123 _ _ s1, rfl, sn, md, fiOf n o, rfl, hS.same k123, fun H4 l4 k4 e4 => ?_⟩
  refine ⟨Nat.zero_le _, fun l5 h5 => ?_⟩
  have k5 : Same H4 (upd H4 l5 (.lst [])) := same_upd h5
  refine .inr ⟨rfl, l4, l5, [], rfl, k5 _ _ e4, upd_same, by decide, fun H6 k6 => ?_⟩
  refine ⟨_, rfl, iteF ?_⟩
  exact q _ (k123.trans (k4.trans (k5.trans k6)))
def rowTail (c d : Int) (o : Nat) : List V := cutV [V.int c, V.int d] none (some (1 + (if decide ((0 : Int) < o) = true then 1 else 0)))
theorem rowTail_len (c d : Int) (o : Nat) : (rowTail c d o).length ≤ 2 := Nat.le_trans (cutV_length _ _ _) (Nat.le_refl 2)
theorem row_eq (a b c d : Int) (o : Nat) : [V.int a, V.int b] ++ rowTail c d o = (wsOf a b c d o).map V.int := by
  unfold rowTail wsOf
  by_cases h : 0 < o
  · rw [if_pos h, if_pos (decide_eq_true (show (0 : Int) < o by omega))]
    rw [show cutV [V.int c, V.int d] none (some (1 + 1)) = [V.int c, V.int d] from cut_take _ 2]
    rfl
  · rw [if_neg h, if_neg (by rw [decide_eq_false (show ¬ (0 : Int) < o by omega)]; decide)]
    rw [show cutV [V.int c, V.int d] none (some (1 + 0)) = [V.int c] from cut_take _ 1]
    rfl
theorem ix1 (a b c d : Int) (o : Nat) : ixN ((wsOf a b c d o).map V.int).length 1 = some 1 := by
  unfold wsOf
  by_cases h : 0 < o
  · rw [if_pos h]
    rfl
  · rw [if_neg h]
    rfl
def spLaw (K : PySem.W.Frag) : Sp := fun vs H Q _ => ∃ (a : Addr) (ns : List Int), vs = [.ref a] ∧ SqL K H a (ns.map V.int) ∧ ns.length ≤ 63 ∧ ∀ H', Q (.bl true) H'
section
variable {P : Program} {w : World} {K : PySem.W.Frag} {mg : Str → Option Value} {base : Heap}
theorem ok_law (T : Tx K mg) : FnOk P w K mg base CX0 19 (ga K "law") (fda K (ga K "law")) ["_law_script"] (spLaw K) := by
  have GN : FnOk P w K mg base CX0 18 _ _ _ _ := (ok_law_next T).mono (by decide)
  have GP : FnOk P w K mg base CX0 18 _ _ _ _ := (ok_law_power T).mono (by decide)
  have GA : FnOk P w K mg base CX0 18 _ _ _ _ := (ok_law_any_value T).mono (by decide)
  have GM : FnOk P w K mg base CX0 18 _ _ _ _ := (ok_law_module_by T).mono (by decide)
  have GD : FnOk P w K mg base CX0 18 _ _ _ _ := (ok_law_due T).mono (by decide)
  have GS : FnOk P w K mg base CX0 18 _ _ _ _ := (ok_law_same T).mono (by decide)
  have GI : FnOk P w K mg base CX0 17 _ _ _ _ := ok_Scene_init T
  have GB : FnOk P w K mg base CX0 18 _ _ _ _ := (ok_beat T).mono (by decide)
  have GH : FnOk P w K mg base CX0 18 _ _ _ _ := (ok_held T).mono (by decide)
  refine T.law.fn.ok sc_law (fun vs H Q E h => ?_) (fun cdv A outer s H vs Q E hr h => ?_)
  · obtain ⟨_, _, rfl, _⟩ := h
    rfl
  · obtain ⟨a, ns, rfl, hA, hlen, q⟩ := h
    refine ⟨_, pss_cons (ps_set (i := 1) sc_law.nd rfl (.inl rfl) (pe_lst (pa_cons pe_int pa_nil))) <|
      pss_cons (ps_for PassesOwn.never rfl (pi_range1 rfl T.z_range (pa_cons pe_int pa_nil)) (pg_name (i := 2) sc_law.nd rfl (.inl rfl))
        (pss_cons (ps_set (i := 3) sc_law.nd rfl (.inl rfl) (pe_call GN hr (by rfl) T.law_next.gl T.law_next.fn.kp T.law_next.bd .nil pass0 (pa_cons (pv 0) (pa_cons (pv 1) pa_nil)))) <|
         pss_cons (ps_set (i := 4) sc_law.nd rfl (.inl rfl) (pe_ix ix_list (pe_lst (pa_cons pe_int (pa_cons pe_int (pa_cons pe_int (pa_cons pe_int (pa_cons pe_int (pa_cons (pe_op op_add pe_int (pe_op op_mod (pe_op op_fdiv (pv 3) pe_int) pe_int)) pa_nil))))))) (pe_op op_mod (pv 3) pe_int) (fun _ _ => rfl))) <|
         pss_cons (ps_set (i := 5) sc_law.nd rfl (.inl rfl) (pe_op op_mul (pe_ix ix_list (pe_lst (pa_cons pe_int (pa_cons (pe_op op_sub pe_int (pv 4)) (pa_cons (pe_op op_add pe_int (pe_op op_mod (pe_op op_fdiv (pv 3) pe_int) (pe_callB (call_max2 rfl) (by rfl) T.z_max (by decide +kernel) (pa_cons pe_int (pa_cons (pe_op op_sub pe_int (pv 4)) pa_nil))))) pa_nil)))) (pe_op op_mod (pe_op op_fdiv (pv 3) pe_int) pe_int) (fun _ _ => rfl))
           (pe_callTy call_int1 (by rfl) T.z_int (by decide +kernel) (pa_cons (pe_cmpR op_lt (pv 4) pe_int (nomark _)) pa_nil)))) <|
         pss_cons (ps_set (i := 6) sc_law.nd rfl (.inl rfl) (pe_op op_mod (pe_op op_fdiv (pv 3) pe_int) (pv 4))) <|
         pss_cons (ps_set (i := 7) sc_law.nd rfl (.inl rfl) (pe_ix ix_list (pe_lst (pa_cons pe_int (pa_cons (pe_op op_sub (pv 4) (pv 6)) (pa_cons (pe_op op_add pe_int (pe_op op_mod (pe_op op_fdiv (pv 3) pe_int) (pe_op op_sub (pv 4) (pv 6)))) pa_nil)))) (pe_op op_mod (pe_op op_fdiv (pv 3) pe_int) pe_int) (fun _ _ => rfl))) <|
         pss_cons (ps_set (i := 8) sc_law.nd rfl (.inl rfl) (pe_call GP hr (by rfl) T.law_power.gl T.law_power.fn.kp T.law_power.bd .nil pass0 (pa_cons (pv 4) pa_nil))) <|
         pss_cons (ps_set (i := 9) sc_law.nd rfl (.inl rfl) (pe_call GA hr (by rfl) T.law_any_value.gl T.law_any_value.fn.kp T.law_any_value.bd .nil pass0 (pa_cons (pv 0) (pa_cons (pv 1) (pa_cons (pv 8) pa_nil))))) <|
         pss_cons (ps_set (i := 10) sc_law.nd rfl (.inl rfl) (pe_make T.c_Scene.mkr GI hr (by rfl) T.c_Scene.gl T.Scene_init.bd .nil pass0 (pa_cons (pe_lst (pa_cons (pe_call GM hr (by rfl) T.law_module_by.gl T.law_module_by.fn.kp T.law_module_by.bd .nil pass0 (pa_cons (pv 4) (pa_cons (pv 5) (pa_cons (pv 6) (pa_cons (pv 7) (pa_cons (pv 9) pa_nil)))))) pa_nil)) pa_nil))) <|
         pss_one (ps_for PassesOwn.never rfl (pi_range1 rfl T.z_range (pa_cons pe_int pa_nil)) (pg_name (i := 11) sc_law.nd rfl (.inl rfl))
           (pss_cons (ps_set (i := 12) sc_law.nd rfl (.inl rfl) (pe_lst (pa_cons (pe_call GA hr (by rfl) T.law_any_value.gl T.law_any_value.fn.kp T.law_any_value.bd .nil pass0 (pa_cons (pv 0) (pa_cons (pv 1) (pa_cons (pv 8) pa_nil)))) (pa_cons (pe_call GA hr (by rfl) T.law_any_value.gl T.law_any_value.fn.kp T.law_any_value.bd .nil pass0 (pa_cons (pv 0) (pa_cons (pv 1) (pa_cons (pv 8) pa_nil)))) pa_nil)))) <|
            pss_cons (ps_set (i := 12) sc_law.nd rfl (.inl rfl) (pe_op op_cat (pv 12) (pe_slice sl_list (pe_lst (pa_cons (pe_op op_mod (pe_call GN hr (by rfl) T.law_next.gl T.law_next.fn.kp T.law_next.bd .nil pass0 (pa_cons (pv 0) (pa_cons (pv 1) pa_nil))) pe_int)
                (pa_cons (pe_call GA hr (by rfl) T.law_any_value.gl T.law_any_value.fn.kp T.law_any_value.bd .nil pass0 (pa_cons (pv 0) (pa_cons (pv 1) (pa_cons (pe_call GP hr (by rfl) T.law_power.gl T.law_power.fn.kp T.law_power.bd .nil pass0 (pa_cons (pv 5) pa_nil)) pa_nil)))) pa_nil))) po_none
              (po_some (pe_op op_add pe_int (pe_callTy call_int1 (by rfl) T.z_int (by decide +kernel) (pa_cons (pe_cmpR op_gt (pv 5) pe_int (nomark _)) pa_nil))))))) <|
            pss_cons (ps_if (pt_cmpR op_eq (pv 11) pe_int (nomark _)) (pss_one (ps_asg (ixL (pv 12)) (pg_sub (pv 12) pe_int set_list))) pss_nil) <|
            pss_cons (ps_if (pt_not (pt_val (pe_call GS hr (by rfl) T.law_same.gl T.law_same.fn.kp T.law_same.bd .nil pass0 (pa_cons (pe_meth (pv 10) T.c_Scene.cl T.m_Scene_beat GB hr T.Scene_beat.bd .nil pass0 (pa_cons (pv 12) pa_nil)) (pa_cons (pe_call GD hr (by rfl) T.law_due.gl T.law_due.fn.kp T.law_due.bd .nil pass0 (pa_cons (pv 12) (pa_cons (pv 4) (pa_cons (pv 5) (pa_cons (pv 6) (pa_cons (pv 7) (pa_cons (pv 9) pa_nil))))))) pa_nil))))) (pss_one (ps_ret pe_bl)) pss_nil) <|
            pss_one (ps_if (pt_not (pt_val (pe_call GS hr (by rfl) T.law_same.gl T.law_same.fn.kp T.law_same.bd .nil pass0 (pa_cons (pe_meth0 (pv 10) T.c_Scene.cl T.m_Scene_held GH hr T.Scene_held.bd .nil pass0) (pa_cons (pe_lst pa_nil) pa_nil))))) (pss_one (ps_ret pe_bl)) pss_nil))))) <|
      pss_one (ps_ret pe_bl), ?_⟩
    have y : ∀ k : Nat, k ≤ 30 → k ≤ sizeLine := fun k h => Nat.le_of_lt (small1000 (by omega))
    refine ⟨y 1 (by decide), fun p hp => ?_⟩
    have L0 : LwAt K (upd H p (.lst [.int 0])) a p ns 0 := ⟨⟨H, same_upd hp, hA, hp⟩, hlen, upd_same, by decide⟩
    refine ⟨16, rfl, by decide, by decide, for_range (lo := 0) (n := 16) (fun i σ H' => (∃ z2 z3 z4 z5 z6 z7 z8 z9 z10 z11 z12, σ = [some (.ref a), some (.ref p), z2, z3, z4, z5, z6, z7, z8, z9, z10, z11, z12]) ∧ LwAt K H' a p ns (18 * i)) ⟨⟨none, none, none, none, none, none, none, none, none, none, none, rfl⟩, L0⟩ ?_ (fun σ H' _ => q H')⟩
    rintro i σ H1 hi ⟨⟨z2, z3, z4, z5, z6, z7, z8, z9, z10, z11, z12, rfl⟩, L1⟩
    -- m
    refine ⟨_, rfl, _, rfl, a, p, ns, 18 * i, rfl, L1, by omega, fun H2 m hm0 hm1 k2 c2 => ?_⟩
    have L2 := L1.kp k2 c2 (by omega)
    show tSeq _ _ _ [some (.ref a), some (.ref p), some (.int (0 + (i : Int))), some (.int m), z4, z5, z6, z7, z8, z9, z10, z11, z12] H2
    -- wide
    obtain ⟨wv, hwm, hwi⟩ := atI_ints (l := [1, 2, 8, 15, 16, 1 + m / 6 % 15]) (i := m % 6) (Int.emod_nonneg _ (by decide)) (Int.emod_lt_of_pos m (by decide))
    have hw : 1 ≤ wv ∧ wv ≤ 16 := by
      simp only [List.mem_cons, List.not_mem_nil, or_false] at hwm
      omega
    obtain ⟨n, rfl⟩ := Int.eq_ofNat_of_zero_le (show 0 ≤ wv by omega)
    refine ⟨_, rfl, _, _, rfl, rfl, ⟨by decide, by decide⟩, _, _, rfl, rfl, (by show (0 : Int) < 15; decide), _, _, rfl, rfl, y 6 (by decide), fun l1 h1 => ?_⟩
    refine ⟨_, rfl, _, _, rfl, rfl, (by show (0 : Int) < 6; decide), l1, _, _, _, rfl, rfl, SqL.of upd_same, hwi, ?_⟩
    have L3 := L2.same (same_upd (o := HO.lst ([1, 2, 8, 15, 16, 1 + m / 6 % 15].map V.int)) h1)
    show tSeq _ _ _ [some (.ref a), some (.ref p), some (.int (0 + (i : Int))), some (.int m), some (.int (n : Int)), z5, z6, z7, z8, z9, z10, z11, z12] (upd H2 l1 (HO.lst ([1, 2, 8, 15, 16, 1 + m / 6 % 15].map V.int)))
    generalize upd H2 l1 (HO.lst ([1, 2, 8, 15, 16, 1 + m / 6 % 15].map V.int)) = H3 at L3 ⊢
    clear L2 h1 hwm hwi L1 k2 c2
    -- other
    have hM : (0 : Int) < if 16 - (n : Int) > 1 then 16 - (n : Int) else 1 := by split <;> omega
    obtain ⟨ov, hom, hoi⟩ := atI_ints (l := [1, 16 - (n : Int), 1 + m / 90 % (if 16 - (n : Int) > 1 then 16 - (n : Int) else 1)]) (i := m / 3 % 3) (Int.emod_nonneg _ (by decide)) (Int.emod_lt_of_pos (m / 3) (by decide))
    obtain ⟨o, ho, hno⟩ : ∃ o : Nat, ov * (if decide ((n : Int) < 16) = true then 1 else 0) = (o : Int) ∧ n + o ≤ 16 := by
      by_cases hn : (n : Int) < 16
      · rw [if_pos (decide_eq_true hn), Int.mul_one]
        have e1 := Int.emod_nonneg (m / 90) (show (if 16 - (n : Int) > 1 then 16 - (n : Int) else 1) ≠ 0 by omega)
        have e2 := Int.emod_lt_of_pos (m / 90) hM
        have hb : 1 ≤ ov ∧ ov ≤ 16 - (n : Int) := by
          simp only [List.mem_cons, List.not_mem_nil, or_false] at hom
          rcases hom with rfl | rfl | rfl
          · omega
          · omega
          · split at e1 <;> split at e2 <;> split <;> omega
        obtain ⟨o, rfl⟩ := Int.eq_ofNat_of_zero_le (show 0 ≤ ov by omega)
        exact ⟨o, rfl, by omega⟩
      · rw [if_neg (by rw [decide_eq_false hn]; decide), Int.mul_zero]
        exact ⟨0, rfl, by omega⟩
    have h01 : ∀ c : Bool, -(2 ^ 64) < (if c = true then (1 : Int) else 0) ∧ (if c = true then (1 : Int) else 0) < 2 ^ 64 := by decide
    refine ⟨_, rfl, _, _, rfl, rfl, _, rfl, _, _, rfl, rfl, ⟨by decide, by decide⟩, _, rfl, _, _, rfl, rfl, _, _, rfl, _, _, rfl, rfl, hM, _, _, rfl, rfl, y 3 (by decide), fun l2 h2 => ?_⟩
    refine ⟨_, rfl, _, _, rfl, rfl, ⟨by decide, by decide⟩, _, _, rfl, rfl, (by show (0 : Int) < 3; decide), l2, _, _, _, rfl, rfl, SqL.of upd_same, hoi, _, rfl, _, _, rfl, rfl, .inr ⟨_, rfl, _, _, rfl, rfl, .inr (h01 _), ?_⟩⟩
    have L4 := L3.same (same_upd (o := HO.lst ([1, 16 - (n : Int), 1 + m / 90 % (if 16 - (n : Int) > 1 then 16 - (n : Int) else 1)].map V.int)) h2)
    show tSeq _ _ _ [some (.ref a), some (.ref p), some (.int (0 + (i : Int))), some (.int m), some (.int (n : Int)), some (.int (ov * (if decide ((n : Int) < 16) = true then 1 else 0))), z6, z7, z8, z9, z10, z11, z12] (upd H3 l2 (HO.lst ([1, 16 - (n : Int), 1 + m / 90 % (if 16 - (n : Int) > 1 then 16 - (n : Int) else 1)].map V.int)))
    generalize upd H3 l2 (HO.lst ([1, 16 - (n : Int), 1 + m / 90 % (if 16 - (n : Int) > 1 then 16 - (n : Int) else 1)].map V.int)) = H4 at L4 ⊢
    rw [ho]
    clear L3 h2 hom hoi hM ho ov
    -- low
    have hnp : (0 : Int) < n := by omega
    have g1 := Int.emod_nonneg (m / 225) (show (n : Int) ≠ 0 by omega)
    have g2 := Int.emod_lt_of_pos (m / 225) hnp
    refine ⟨_, rfl, _, _, rfl, rfl, ⟨by decide, by decide⟩, _, rfl, _, _, rfl, rfl, hnp, ?_⟩
    show tSeq _ _ _ [some (.ref a), some (.ref p), some (.int (0 + (i : Int))), some (.int m), some (.int (n : Int)), some (.int (o : Int)), some (.int (m / 225 % n)), z7, z8, z9, z10, z11, z12] H4
    obtain ⟨lo, hlo⟩ := Int.eq_ofNat_of_zero_le g1
    rw [hlo] at g2 ⊢
    clear g1 hlo
    -- broad
    have hnl : (0 : Int) < (n : Int) - (lo : Int) := by omega
    obtain ⟨bv, hbm, hbi⟩ := atI_ints (l := [1, (n : Int) - (lo : Int), 1 + m / 9000 % ((n : Int) - (lo : Int))]) (i := m / 7 % 3) (Int.emod_nonneg _ (by decide)) (Int.emod_lt_of_pos (m / 7) (by decide))
    have hb : 1 ≤ bv ∧ bv ≤ (n : Int) - (lo : Int) := by
      have e1 := Int.emod_nonneg (m / 9000) (show (n : Int) - (lo : Int) ≠ 0 by omega)
      have e2 := Int.emod_lt_of_pos (m / 9000) hnl
      simp only [List.mem_cons, List.not_mem_nil, or_false] at hbm
      rcases hbm with rfl | rfl | rfl <;> omega
    obtain ⟨br, rfl⟩ := Int.eq_ofNat_of_zero_le (show 0 ≤ bv by omega)
    refine ⟨_, rfl, _, rfl, _, _, rfl, rfl, _, rfl, _, _, rfl, rfl, ⟨by decide, by decide⟩, _, rfl, _, rfl, _, _, rfl, rfl, _, _, rfl, rfl, hnl, _, _, rfl, rfl, y 3 (by decide), fun l3 h3 => ?_⟩
    refine ⟨_, rfl, _, _, rfl, rfl, ⟨by decide, by decide⟩, _, _, rfl, rfl, (by show (0 : Int) < 3; decide), l3, _, _, _, rfl, rfl, SqL.of upd_same, hbi, ?_⟩
    have L5 := L4.same (same_upd (o := HO.lst ([1, (n : Int) - (lo : Int), 1 + m / 9000 % ((n : Int) - (lo : Int))].map V.int)) h3)
    show tSeq _ _ _ [some (.ref a), some (.ref p), some (.int (0 + (i : Int))), some (.int m), some (.int (n : Int)), some (.int (o : Int)), some (.int (lo : Int)), some (.int (br : Int)), z8, z9, z10, z11, z12] (upd H4 l3 (HO.lst ([1, (n : Int) - (lo : Int), 1 + m / 9000 % ((n : Int) - (lo : Int))].map V.int)))
    generalize upd H4 l3 (HO.lst ([1, (n : Int) - (lo : Int), 1 + m / 9000 % ((n : Int) - (lo : Int))].map V.int)) = H5 at L5 ⊢
    clear L4 h3 hbm hbi
    have n16 : n ≤ 16 := by omega
    -- power, value
    refine ⟨_, rfl, n, rfl, n16, ?_⟩
    refine ⟨_, rfl, _, rfl, _, rfl, a, p, ns, 18 * i + 1, n, rfl, n16, L5, by omega, fun H6 v v0 v1 k6 c6 => ?_⟩
    have L6 := L5.kp k6 c6 (by omega)
    show tSeq _ _ _ [some (.ref a), some (.ref p), some (.int (0 + (i : Int))), some (.int m), some (.int (n : Int)), some (.int (o : Int)), some (.int (lo : Int)), some (.int (br : Int)), some (.int (2 ^ n)), some (.int v), z10, z11, z12] H6
    clear L5 k6 c6
    have hP : Par n o lo br v := ⟨by omega, n16, hno, by omega, by omega, v0, v1⟩
    obtain ⟨S, hS1, hS2⟩ := sense hP
    -- the scene
    refine ⟨_, rfl, _, rfl, _, rfl, _, rfl, _, rfl, n, o, lo, br, v, rfl, fun H7 md s7 hM7 => ⟨y 1 (by decide), fun ml hml sn ds nsn nds nes => ?_⟩⟩
    have s8 : Same H7 (upd H7 ml (.lst [.ref md])) := same_upd hml
    have s9 : Same (upd H7 ml (.lst [.ref md])) (upd (upd (upd H7 ml (.lst [.ref md])) ds (.own sn)) sn (.ins (ga K "Scene") ds [])) := fun b o e => by
      rw [upd_ne (ne_of_none e nsn), upd_ne (ne_of_none e nds)]
      exact e
    refine ⟨sn, ds, ml, md, rowsOf n o lo br v, S, rfl, upd_same, s9 _ _ upd_same, (hM7.same s8).same s9, hS1, fun H8 hSc k8 => ⟨rfl, ?_⟩⟩
    rw [hS2] at hSc
    have s78 : Same H7 H8 := fun b ob e => k8 b ob (s9 _ _ (s8 _ _ e)) (ne_of_none (s8 _ _ e) nsn)
    have L8 := (L6.same s7).same s78
    have hM8 := hM7.same s78
    clear L6 s7 s8 s9 s78 k8 hM7 nsn nds nes hml hS1 hS2
    -- four beats
    refine ⟨4, rfl, by decide, by decide, for_range (lo := 0) (n := 4) (fun j σ H' => (∃ z11 z12, σ = [some (.ref a), some (.ref p), some (.int (0 + (i : Int))), some (.int m), some (.int (n : Int)), some (.int (o : Int)), some (.int (lo : Int)), some (.int (br : Int)), some (.int (2 ^ n)), some (.int v), some (.ref sn), z11, z12]) ∧ LwAt K H' a p ns (18 * i + 2 + 4 * j) ∧ SceneAt K H' sn md (fiOf n o) ∧ MdAt K H' md (rowsOf n o lo br v)) ⟨⟨z11, z12, rfl⟩, L8, hSc, hM8⟩ ?_ (fun σ H' ⟨⟨y11, y12, e⟩, L9, _⟩ => ⟨⟨_, _, _, _, _, _, _, _, _, _, _, e⟩, L9⟩)⟩
    clear L8 hSc hM8 H1 H2 H3 H4 H5 H6 H7 H8
    rintro j σ H1 hj ⟨⟨y11, y12, rfl⟩, L1, S1, M1⟩
    have hkp : ∀ {X Y : Hp} {c : Nat}, LwAt K X a p ns c → Kp X Y p → SceneAt K X sn md (fiOf n o) → SceneAt K Y sn md (fiOf n o) := fun h k m => SceneAt.kp (f := (("m" : Str), n)) (fi := [(("c" : Str), n), (("g" : Str), 1)] ++ if 0 < o then [(("a" : Str), o)] else []) h k m
    -- the row
    refine ⟨_, rfl, _, rfl, _, rfl, a, p, ns, _, n, rfl, n16, L1, by omega, fun H2 va a0 a1 k2 c2 => ?_⟩
    have L2 := L1.kp k2 c2 (by omega)
    have S2 := hkp L1 k2 S1
    have M2 := M1.kp L1 k2
    refine ⟨_, rfl, _, rfl, _, rfl, a, p, ns, _, n, rfl, n16, L2, by omega, fun H3 vb b0 b1 k3 c3 => ⟨y 2 (by decide), fun r1 h1 => ?_⟩⟩
    have L3 := L2.kp k3 c3 (by omega)
    have S3 := hkp L2 k3 S2
    have M3 := M2.kp L2 k3
    have s4 := same_upd (o := HO.lst [V.int va, V.int vb]) h1
    have e4 := upd_same (H := H3) (a := r1) (o := HO.lst [V.int va, V.int vb])
    have n1p : r1 ≠ p := (ne_of_none L3.ctr h1).symm
    show tSeq _ _ _ [some (.ref a), some (.ref p), some (.int (0 + (i : Int))), some (.int m), some (.int (n : Int)), some (.int (o : Int)), some (.int (lo : Int)), some (.int (br : Int)), some (.int (2 ^ n)), some (.int v), some (.ref sn), some (.int (0 + (j : Int))), some (.ref r1)] (upd H3 r1 (HO.lst [V.int va, V.int vb]))
    generalize upd H3 r1 (HO.lst [V.int va, V.int vb]) = H4 at s4 e4 ⊢
    have L4 := L3.same s4
    have S4 := S3.same s4
    have M4 := M3.same s4
    clear L1 S1 M1 k2 c2 L2 S2 M2 k3 c3 L3 S3 M3 s4 h1
    refine ⟨_, rfl, _, rfl, _, rfl, a, p, ns, _, rfl, L4, by omega, fun H5 mc mc0 mc1 k5 c5 => ?_⟩
    have L5 := L4.kp k5 c5 (by omega)
    have S5 := hkp L4 k5 S4
    have M5 := M4.kp L4 k5
    have e5 := k5 _ _ e4 n1p
    have o16 : o ≤ 16 := by omega
    refine ⟨_, _, rfl, rfl, (by show (0 : Int) < 2; decide), _, rfl, _, rfl, _, rfl, o, rfl, o16, a, p, ns, _, o, rfl, o16, L5, by omega, fun H6 vd d0 d1 k6 c6 => ⟨y 2 (by decide), fun r2 h2 => ?_⟩⟩
    have L6 := L5.kp k6 c6 (by omega)
    have S6 := hkp L5 k6 S5
    have M6 := M5.kp L5 k6
    have e6 := k6 _ _ e5 n1p
    clear L4 S4 M4 k5 c5 L5 S5 M5 e4 e5 k6 c6
    refine ⟨_, rfl, _, _, rfl, rfl, .inr ⟨_, rfl, _, _, rfl, rfl, _, rfl, r2, _, rfl, SqL.of upd_same, fun r3 h3 => ?_⟩⟩
    have s6 : Same H6 (upd H6 r2 (.lst [.int (mc % 2), .int vd])) := same_upd h2
    have s7 : Same (upd H6 r2 (.lst [.int (mc % 2), .int vd])) (upd (upd H6 r2 (.lst [.int (mc % 2), .int vd])) r3 (.lst (rowTail (mc % 2) vd o))) := same_upd h3
    refine ⟨r1, r3, _, _, rfl, rfl, s7 _ _ (s6 _ _ e6), upd_same, y _ (by have := rowTail_len (mc % 2) vd o; show 2 + (rowTail (mc % 2) vd o).length ≤ 30; omega), fun rl hrl => ?_⟩
    have s8 := (s6.trans s7).trans (same_upd (o := HO.lst ((wsOf va vb (mc % 2) vd o).map V.int)) hrl)
    have e8 := upd_same (H := upd (upd H6 r2 (.lst [.int (mc % 2), .int vd])) r3 (.lst (rowTail (mc % 2) vd o))) (a := rl) (o := HO.lst ((wsOf va vb (mc % 2) vd o).map V.int))
    have er := row_eq va vb (mc % 2) vd o
    have hup : upd (upd (upd H6 r2 (.lst [.int (mc % 2), .int vd])) r3 (.lst (rowTail (mc % 2) vd o))) rl (.lst ([V.int va, V.int vb] ++ rowTail (mc % 2) vd o)) = upd (upd (upd H6 r2 (.lst [.int (mc % 2), .int vd])) r3 (.lst (rowTail (mc % 2) vd o))) rl (.lst ((wsOf va vb (mc % 2) vd o).map V.int)) := by rw [er]
    show tSeq _ _ _ [some (.ref a), some (.ref p), some (.int (0 + (i : Int))), some (.int m), some (.int (n : Int)), some (.int (o : Int)), some (.int (lo : Int)), some (.int (br : Int)), some (.int (2 ^ n)), some (.int v), some (.ref sn), some (.int (0 + (j : Int))), some (.ref rl)] (upd (upd (upd H6 r2 (.lst [.int (mc % 2), .int vd])) r3 (.lst (rowTail (mc % 2) vd o))) rl (.lst ([V.int va, V.int vb] ++ rowTail (mc % 2) vd o)))
    rw [hup]
    generalize upd (upd (upd H6 r2 (.lst [.int (mc % 2), .int vd])) r3 (.lst (rowTail (mc % 2) vd o))) rl (.lst ((wsOf va vb (mc % 2) vd o).map V.int)) = H8 at s8 e8 ⊢
    have L8 := L6.same s8
    have S8 := S6.same s8
    have M8 := M6.same s8
    obtain ⟨H0, z1, z2, z3⟩ := L6.ex
    have f0 : H0 rl = none := (z1.trans (s6.trans s7)).free hrl
    have z8 : Same H0 H8 := z1.trans s8
    clear hup er s6 s7 s8 e6 L6 S6 M6 h2 h3 hrl z1
    have cc0 := Int.emod_nonneg mc (show (2 : Int) ≠ 0 by decide)
    have cc1 := Int.emod_lt_of_pos mc (show (0 : Int) < 2 by decide)
    have hd0 : o = 0 → vd = 0 := fun e => by
      subst e
      have d1' : vd < 1 := d1
      omega
    have fin : ∀ H9, LwAt K H9 a p ns (18 * i + 2 + 4 * j + 1 + 1 + 1 + 1) → LwAt K H9 a p ns (18 * i + 2 + 4 * (j + 1)) := fun H9 h => by
      rw [show 18 * i + 2 + 4 * (j + 1) = 18 * i + 2 + 4 * j + 1 + 1 + 1 + 1 by omega]
      exact h
    -- if k == 3: row[1] = row[0]
    refine ⟨_, rfl, rfl, _, rfl, ite2 (fun _ => ?_) (fun _ => ?_)⟩
    · refine ⟨_, rfl, rl, _, _, _, rfl, rfl, SqL.of e8, atI_nat (j := 0) rfl, _, rfl, rl, _, 1, 1, rfl, rfl, e8, ix1 va vb (mc % 2) vd o, ?_⟩
      have kr : Kp H8 (upd H8 rl (.lst ((wsOf va va (mc % 2) vd o).map V.int))) rl := fun b ob e h => (upd_ne h).trans e
      have nrp : p ≠ rl := ne_of L8.ctr e8 (fun z => by injection z with z; cases z)
      show tCheck K _ [some (.ref a), some (.ref p), some (.int (0 + (i : Int))), some (.int m), some (.int (n : Int)), some (.int (o : Int)), some (.int (lo : Int)), some (.int (br : Int)), some (.int (2 ^ n)), some (.int v), some (.ref sn), some (.int (0 + (j : Int))), some (.ref rl)] (upd H8 rl (.lst ((wsOf va va (mc % 2) vd o).map V.int)))
      have ec : H8 rl = some (HO.lst (V.int va :: ([vb, mc % 2] ++ if 0 < o then [vd] else []).map V.int)) := e8
      have Ln : LwAt K (upd H8 rl (.lst ((wsOf va va (mc % 2) vd o).map V.int))) a p ns (18 * i + 2 + 4 * j + 1 + 1 + 1 + 1) := ⟨⟨H0, fun b ob e => kr b ob (z8 _ _ e) (ne_of_none e f0), z2, z3⟩, L8.len, kr _ _ L8.ctr nrp, L8.small⟩
      have Sn : SceneAt K (upd H8 rl (.lst ((wsOf va va (mc % 2) vd o).map V.int))) sn md (fiOf n o) := SceneAt.kl (f := (("m" : Str), n)) (fi := [(("c" : Str), n), (("g" : Str), 1)] ++ if 0 < o then [(("a" : Str), o)] else []) ec kr S8
      have Mn := MdAt.kl ec kr M8
      exact check_ok hP ⟨a0, a1, a0, a1, cc0, cc1, d0, d1⟩ hd0 Sn Mn upd_same fun H9 s9 => ⟨⟨_, _, rfl⟩, fin _ (Ln.same s9), Sn.same s9, Mn.same s9⟩
    · show tCheck K _ [some (.ref a), some (.ref p), some (.int (0 + (i : Int))), some (.int m), some (.int (n : Int)), some (.int (o : Int)), some (.int (lo : Int)), some (.int (br : Int)), some (.int (2 ^ n)), some (.int v), some (.ref sn), some (.int (0 + (j : Int))), some (.ref rl)] H8
      exact check_ok hP ⟨a0, a1, b0, b1, cc0, cc1, d0, d1⟩ hd0 S8 M8 e8 fun H9 s9 => ⟨⟨_, _, rfl⟩, fin _ (L8.same s9), S8.same s9, M8.same s9⟩
end
end K11
set_option maxHeartbeats 0
/-! The head: the top's run in the kernel, the facts by names (printed by gen_kh.py). -/
namespace K11
open PySem PySem.Spec PyProof.Rows L2 He
def d_power_of : DefD := ⟨("power_of", none), "power_of", "power_of", defArgs s_power_of, defBody s_power_of, defScope s_power_of, [], []⟩
def d_is_wide : DefD := ⟨("is_wide", none), "is_wide", "is_wide", defArgs s_is_wide, defBody s_is_wide, defScope s_is_wide, [], []⟩
def d_value_fits : DefD := ⟨("value_fits", none), "value_fits", "value_fits", defArgs s_value_fits, defBody s_value_fits, defScope s_value_fits, [], []⟩
def d_part_wide : DefD := ⟨("part_wide", none), "part_wide", "part_wide", defArgs s_part_wide, defBody s_part_wide, defScope s_part_wide, [], []⟩
def d_pick_wide : DefD := ⟨("pick_wide", none), "pick_wide", "pick_wide", defArgs s_pick_wide, defBody s_pick_wide, defScope s_pick_wide, [], []⟩
def d_pair_wide : DefD := ⟨("pair_wide", none), "pair_wide", "pair_wide", defArgs s_pair_wide, defBody s_pair_wide, defScope s_pair_wide, [], []⟩
def d_expr_wide : DefD := ⟨("expr_wide", none), "expr_wide", "expr_wide", defArgs s_expr_wide, defBody s_expr_wide, defScope s_expr_wide, [], []⟩
def d_in_fits : DefD := ⟨("in_fits", none), "in_fits", "in_fits", defArgs s_in_fits, defBody s_in_fits, defScope s_in_fits, [], []⟩
def d_out_fits : DefD := ⟨("out_fits", none), "out_fits", "out_fits", defArgs s_out_fits, defBody s_out_fits, defScope s_out_fits, [], []⟩
def d_row_fits : DefD := ⟨("row_fits", none), "row_fits", "row_fits", defArgs s_row_fits, defBody s_row_fits, defScope s_row_fits, [], []⟩
def d_face_of : DefD := ⟨("face_of", none), "face_of", "face_of", defArgs s_face_of, defBody s_face_of, defScope s_face_of, [], []⟩
def d_top_face : DefD := ⟨("top_face", none), "top_face", "top_face", defArgs s_top_face, defBody s_top_face, defScope s_top_face, [], []⟩
def d_faces : DefD := ⟨("faces", none), "faces", "faces", defArgs s_faces, defBody s_faces, defScope s_faces, [], []⟩
def d_bits_turned : DefD := ⟨("bits_turned", none), "bits_turned", "bits_turned", defArgs s_bits_turned, defBody s_bits_turned, defScope s_bits_turned, [], []⟩
def d_pair_value : DefD := ⟨("pair_value", none), "pair_value", "pair_value", defArgs s_pair_value, defBody s_pair_value, defScope s_pair_value, [], []⟩
def d_expr_value : DefD := ⟨("expr_value", none), "expr_value", "expr_value", defArgs s_expr_value, defBody s_expr_value, defScope s_expr_value, [], []⟩
def d_row_played : DefD := ⟨("row_played", none), "row_played", "row_played", defArgs s_row_played, defBody s_row_played, defScope s_row_played, [], []⟩
def d_unit_played : DefD := ⟨("unit_played", none), "unit_played", "unit_played", defArgs s_unit_played, defBody s_unit_played, defScope s_unit_played, [], []⟩
def d_unit_moved : DefD := ⟨("unit_moved", none), "unit_moved", "unit_moved", defArgs s_unit_moved, defBody s_unit_moved, defScope s_unit_moved, [], []⟩
def d_held_in : DefD := ⟨("held_in", none), "held_in", "held_in", defArgs s_held_in, defBody s_held_in, defScope s_held_in, [], []⟩
def d_law_next : DefD := ⟨("_law_next", none), "_law_next", "_law_next", defArgs s_law_next, defBody s_law_next, defScope s_law_next, [], []⟩
def d_law_same : DefD := ⟨("_law_same", none), "_law_same", "_law_same", defArgs s_law_same, defBody s_law_same, defScope s_law_same, [], []⟩
def d_law_power : DefD := ⟨("_law_power", none), "_law_power", "_law_power", defArgs s_law_power, defBody s_law_power, defScope s_law_power, [], []⟩
def d_law_any_value : DefD := ⟨("_law_any_value", none), "_law_any_value", "_law_any_value", defArgs s_law_any_value, defBody s_law_any_value, defScope s_law_any_value, [], []⟩
def d_law_module_by : DefD := ⟨("_law_module_by", none), "_law_module_by", "_law_module_by", defArgs s_law_module_by, defBody s_law_module_by, defScope s_law_module_by, [], []⟩
def d_law_due : DefD := ⟨("_law_due", none), "_law_due", "_law_due", defArgs s_law_due, defBody s_law_due, defScope s_law_due, [], []⟩
def d_law : DefD := ⟨("law", none), "law", "law", defArgs s_law, defBody s_law, defScope s_law, [], []⟩
def d_Face_init : DefD := ⟨("Face", some "__init__"), "__init__", "Face.__init__", defArgs s_Face_init, defBody s_Face_init, defScope s_Face_init, [], []⟩
def d_Scope_init : DefD := ⟨("Scope", some "__init__"), "__init__", "Scope.__init__", defArgs s_Scope_init, defBody s_Scope_init, defScope s_Scope_init, [], []⟩
def d_Scope_is_free : DefD := ⟨("Scope", some "is_free"), "is_free", "Scope.is_free", defArgs s_Scope_is_free, defBody s_Scope_is_free, defScope s_Scope_is_free, [], []⟩
def d_Unit_init : DefD := ⟨("Unit", some "__init__"), "__init__", "Unit.__init__", defArgs s_Unit_init, defBody s_Unit_init, defScope s_Unit_init, [], []⟩
def d_Sight_init : DefD := ⟨("Sight", some "__init__"), "__init__", "Sight.__init__", defArgs s_Sight_init, defBody s_Sight_init, defScope s_Sight_init, [], []⟩
def d_Scene_init : DefD := ⟨("Scene", some "__init__"), "__init__", "Scene.__init__", defArgs s_Scene_init, defBody s_Scene_init, defScope s_Scene_init, [], []⟩
def d_Scene_beat : DefD := ⟨("Scene", some "beat"), "beat", "Scene.beat", defArgs s_Scene_beat, defBody s_Scene_beat, defScope s_Scene_beat, [], []⟩
def d_Scene_held : DefD := ⟨("Scene", some "held"), "held", "Scene.held", defArgs s_Scene_held, defBody s_Scene_held, defScope s_Scene_held, [], []⟩
def d_Module_init : DefD := ⟨("Module", some "__init__"), "__init__", "Module.__init__", defArgs s_Module_init, defBody s_Module_init, defScope s_Module_init, [], []⟩
def fns : List DefD := [d_power_of, d_is_wide, d_value_fits, d_part_wide, d_pick_wide, d_pair_wide, d_expr_wide, d_in_fits, d_out_fits, d_row_fits, d_face_of, d_top_face, d_faces, d_bits_turned, d_pair_value, d_expr_value, d_row_played, d_unit_played, d_unit_moved, d_held_in, d_law_next, d_law_same, d_law_power, d_law_any_value, d_law_module_by, d_law_due, d_law, d_Face_init, d_Scope_init, d_Scope_is_free, d_Unit_init, d_Sight_init, d_Scene_init, d_Scene_beat, d_Scene_held, d_Module_init]
def fa1 : List Fa := [.glo "power_of", .glo "is_wide", .glo "value_fits", .glo "part_wide", .glo "pick_wide", .glo "pair_wide", .glo "expr_wide", .glo "in_fits", .glo "out_fits", .glo "row_fits", .glo "face_of", .glo "top_face", .glo "faces", .glo "bits_turned", .glo "pair_value", .glo "expr_value", .glo "row_played", .glo "unit_played", .glo "unit_moved", .glo "held_in", .glo "_law_next", .glo "_law_same", .glo "_law_power", .glo "_law_any_value", .glo "_law_module_by", .glo "_law_due", .glo "law", .glo "Face", .glo "Scope", .glo "Unit", .glo "Sight", .glo "Scene", .glo "Module", .cls "Face", .cls "Scope"]
def fa2 : List Fa := [.cls "Unit", .cls "Sight", .cls "Scene", .cls "Module", .mkr "Face", .mkr "Scope", .mkr "Unit", .mkr "Sight", .mkr "Scene", .mkr "Module", .noat "Face" "ins", .noat "Face" "outs", .noat "Scope" "known", .noat "Scope" "widths", .noat "Scope" "used", .noat "Scope" "waiting", .noat "Scope" "ins", .noat "Scope" "outs", .noat "Unit" "module", .noat "Unit" "holding", .noat "Unit" "later", .noat "Unit" "used", .noat "Sight" "fed", .noat "Sight" "names", .noat "Sight" "outs", .noat "Sight" "given", .noat "Scene" "ins", .noat "Scene" "unit", .noat "Module" "name", .noat "Module" "rows", .meth "Scope" "is_free", .meth "Scene" "beat", .meth "Scene" "held", .free "len", .free "range"]
def fa3 : List Fa := [.free "list", .free "enumerate", .free "zip", .free "int", .free "tuple", .free "isinstance", .free "dict", .free "str", .free "bool", .free "max", .free "all", .int "WIDEST" 16]
def fas : List Fa := fa1 ++ (fa2 ++ fa3)
def ln1 : List PySem.Str := ["__name__", "FloorError", "NoSense", "NoRow", "power_of", "WIDEST", "Face", "Scope", "is_wide", "value_fits", "part_wide", "pick_wide", "pair_wide", "used_wide", "expr_wide", "in_fits", "keep_fits", "let_fits", "use_fits", "next_fits", "out_fits"]
def ln2 : List PySem.Str := ["row_fits", "face_of", "top_face", "faces", "Unit", "Sight", "bits_turned", "pair_value", "expr_value", "row_played", "unit_played", "unit_moved", "held_in", "Scene", "Module", "_law_next", "_law_same", "_law_power", "_law_any_value", "_law_module_by", "_law_due"]
def lns : List PySem.Str := ln1 ++ ln2
abbrev R : PySem.W.OpenRow := PySem.W.OpenLaw.row PySem.Challenge.rw_bitfloor_k11_values
abbrev hk : PySem.W.Hook := He.hookD 5 fas fns
def ob (s : PySem.W.SharedT) : He.AlD := He.obsDG 5 fas fns (HandSHeadRun.getT s)
theorem ob_eq (s : PySem.W.SharedT) : ob s = hk.obs s.abs := He.obsDG_eq (HandSHeadRun.getT_eq s)
theorem run (w : World) : HandSHeadRun.RunEq R (PySem.W.view R.prog [47]) hk ob 6000 lns w := by
  intro os
  kernel_rfl

theorem tx_of {K : PySem.W.Frag} {h : Heap} {mg : Str → Option Value} (X : K.In h) (G : h.Ns mainGlobals mg) (c : SaysD fas fns K) : Tx K mg where
  power_of := by
    obtain ⟨fd, F⟩ := c.def_ 0 (d := d_power_of) rfl
    exact dg_of F (glo_ok X G (c.fact 0 (f := .glo "power_of") rfl)) fun _ _ _ _ _ _ us hl => match us, hl with | [_], _ => rfl
  is_wide := by
    obtain ⟨fd, F⟩ := c.def_ 1 (d := d_is_wide) rfl
    exact dg_of F (glo_ok X G (c.fact 1 (f := .glo "is_wide") rfl)) fun _ _ _ _ _ _ us hl => match us, hl with | [_], _ => rfl
  value_fits := by
    obtain ⟨fd, F⟩ := c.def_ 2 (d := d_value_fits) rfl
    exact dg_of F (glo_ok X G (c.fact 2 (f := .glo "value_fits") rfl)) fun _ _ _ _ _ _ us hl => match us, hl with | [_, _], _ => rfl
  part_wide := by
    obtain ⟨fd, F⟩ := c.def_ 3 (d := d_part_wide) rfl
    exact dg_of F (glo_ok X G (c.fact 3 (f := .glo "part_wide") rfl)) fun _ _ _ _ _ _ us hl => match us, hl with | [_, _], _ => rfl
  pick_wide := by
    obtain ⟨fd, F⟩ := c.def_ 4 (d := d_pick_wide) rfl
    exact dg_of F (glo_ok X G (c.fact 4 (f := .glo "pick_wide") rfl)) fun _ _ _ _ _ _ us hl => match us, hl with | [_, _], _ => rfl
  pair_wide := by
    obtain ⟨fd, F⟩ := c.def_ 5 (d := d_pair_wide) rfl
    exact dg_of F (glo_ok X G (c.fact 5 (f := .glo "pair_wide") rfl)) fun _ _ _ _ _ _ us hl => match us, hl with | [_, _], _ => rfl
  expr_wide := by
    obtain ⟨fd, F⟩ := c.def_ 6 (d := d_expr_wide) rfl
    exact dg_of F (glo_ok X G (c.fact 6 (f := .glo "expr_wide") rfl)) fun _ _ _ _ _ _ us hl => match us, hl with | [_, _], _ => rfl
  in_fits := by
    obtain ⟨fd, F⟩ := c.def_ 7 (d := d_in_fits) rfl
    exact dg_of F (glo_ok X G (c.fact 7 (f := .glo "in_fits") rfl)) fun _ _ _ _ _ _ us hl => match us, hl with | [_, _], _ => rfl
  out_fits := by
    obtain ⟨fd, F⟩ := c.def_ 8 (d := d_out_fits) rfl
    exact dg_of F (glo_ok X G (c.fact 8 (f := .glo "out_fits") rfl)) fun _ _ _ _ _ _ us hl => match us, hl with | [_, _], _ => rfl
  row_fits := by
    obtain ⟨fd, F⟩ := c.def_ 9 (d := d_row_fits) rfl
    exact dg_of F (glo_ok X G (c.fact 9 (f := .glo "row_fits") rfl)) fun _ _ _ _ _ _ us hl => match us, hl with | [_, _], _ => rfl
  face_of := by
    obtain ⟨fd, F⟩ := c.def_ 10 (d := d_face_of) rfl
    exact dg_of F (glo_ok X G (c.fact 10 (f := .glo "face_of") rfl)) fun _ _ _ _ _ _ us hl => match us, hl with | [_, _, _], _ => rfl
  top_face := by
    obtain ⟨fd, F⟩ := c.def_ 11 (d := d_top_face) rfl
    exact dg_of F (glo_ok X G (c.fact 11 (f := .glo "top_face") rfl)) fun _ _ _ _ _ _ us hl => match us, hl with | [_], _ => rfl
  faces := by
    obtain ⟨fd, F⟩ := c.def_ 12 (d := d_faces) rfl
    exact dg_of F (glo_ok X G (c.fact 12 (f := .glo "faces") rfl)) fun _ _ _ _ _ _ us hl => match us, hl with | [_], _ => rfl
  bits_turned := by
    obtain ⟨fd, F⟩ := c.def_ 13 (d := d_bits_turned) rfl
    exact dg_of F (glo_ok X G (c.fact 13 (f := .glo "bits_turned") rfl)) fun _ _ _ _ _ _ us hl => match us, hl with | [_, _], _ => rfl
  pair_value := by
    obtain ⟨fd, F⟩ := c.def_ 14 (d := d_pair_value) rfl
    exact dg_of F (glo_ok X G (c.fact 14 (f := .glo "pair_value") rfl)) fun _ _ _ _ _ _ us hl => match us, hl with | [_, _, _], _ => rfl
  expr_value := by
    obtain ⟨fd, F⟩ := c.def_ 15 (d := d_expr_value) rfl
    exact dg_of F (glo_ok X G (c.fact 15 (f := .glo "expr_value") rfl)) fun _ _ _ _ _ _ us hl => match us, hl with | [_, _], _ => rfl
  row_played := by
    obtain ⟨fd, F⟩ := c.def_ 16 (d := d_row_played) rfl
    exact dg_of F (glo_ok X G (c.fact 16 (f := .glo "row_played") rfl)) fun _ _ _ _ _ _ us hl => match us, hl with | [_, _, _], _ => rfl
  unit_played := by
    obtain ⟨fd, F⟩ := c.def_ 17 (d := d_unit_played) rfl
    exact dg_of F (glo_ok X G (c.fact 17 (f := .glo "unit_played") rfl)) fun _ _ _ _ _ _ us hl => match us, hl with | [_, _], _ => rfl
  unit_moved := by
    obtain ⟨fd, F⟩ := c.def_ 18 (d := d_unit_moved) rfl
    exact dg_of F (glo_ok X G (c.fact 18 (f := .glo "unit_moved") rfl)) fun _ _ _ _ _ _ us hl => match us, hl with | [_], _ => rfl
  held_in := by
    obtain ⟨fd, F⟩ := c.def_ 19 (d := d_held_in) rfl
    exact dg_of F (glo_ok X G (c.fact 19 (f := .glo "held_in") rfl)) fun _ _ _ _ _ _ us hl => match us, hl with | [_, _], _ => rfl
  law_next := by
    obtain ⟨fd, F⟩ := c.def_ 20 (d := d_law_next) rfl
    exact dg_of F (glo_ok X G (c.fact 20 (f := .glo "_law_next") rfl)) fun _ _ _ _ _ _ us hl => match us, hl with | [_, _], _ => rfl
  law_same := by
    obtain ⟨fd, F⟩ := c.def_ 21 (d := d_law_same) rfl
    exact dg_of F (glo_ok X G (c.fact 21 (f := .glo "_law_same") rfl)) fun _ _ _ _ _ _ us hl => match us, hl with | [_, _], _ => rfl
  law_power := by
    obtain ⟨fd, F⟩ := c.def_ 22 (d := d_law_power) rfl
    exact dg_of F (glo_ok X G (c.fact 22 (f := .glo "_law_power") rfl)) fun _ _ _ _ _ _ us hl => match us, hl with | [_], _ => rfl
  law_any_value := by
    obtain ⟨fd, F⟩ := c.def_ 23 (d := d_law_any_value) rfl
    exact dg_of F (glo_ok X G (c.fact 23 (f := .glo "_law_any_value") rfl)) fun _ _ _ _ _ _ us hl => match us, hl with | [_, _, _], _ => rfl
  law_module_by := by
    obtain ⟨fd, F⟩ := c.def_ 24 (d := d_law_module_by) rfl
    exact dg_of F (glo_ok X G (c.fact 24 (f := .glo "_law_module_by") rfl)) fun _ _ _ _ _ _ us hl => match us, hl with | [_, _, _, _, _], _ => rfl
  law_due := by
    obtain ⟨fd, F⟩ := c.def_ 25 (d := d_law_due) rfl
    exact dg_of F (glo_ok X G (c.fact 25 (f := .glo "_law_due") rfl)) fun _ _ _ _ _ _ us hl => match us, hl with | [_, _, _, _, _, _], _ => rfl
  law := by
    obtain ⟨fd, F⟩ := c.def_ 26 (d := d_law) rfl
    exact dg_of F (glo_ok X G (c.fact 26 (f := .glo "law") rfl)) fun _ _ _ _ _ _ us hl => match us, hl with | [_], _ => rfl
  Face_init := by
    obtain ⟨fd, F⟩ := c.def_ 27 (d := d_Face_init) rfl
    exact dm_of F fun _ _ _ _ _ _ us hl => match us, hl with | [_, _, _], _ => rfl
  Scope_init := by
    obtain ⟨fd, F⟩ := c.def_ 28 (d := d_Scope_init) rfl
    exact dm_of F fun _ _ _ _ _ _ us hl => match us, hl with | [_, _], _ => rfl
  Scope_is_free := by
    obtain ⟨fd, F⟩ := c.def_ 29 (d := d_Scope_is_free) rfl
    exact dm_of F fun _ _ _ _ _ _ us hl => match us, hl with | [_, _], _ => rfl
  Unit_init := by
    obtain ⟨fd, F⟩ := c.def_ 30 (d := d_Unit_init) rfl
    exact dm_of F fun _ _ _ _ _ _ us hl => match us, hl with | [_, _, _], _ => rfl
  Sight_init := by
    obtain ⟨fd, F⟩ := c.def_ 31 (d := d_Sight_init) rfl
    exact dm_of F fun _ _ _ _ _ _ us hl => match us, hl with | [_, _], _ => rfl
  Scene_init := by
    obtain ⟨fd, F⟩ := c.def_ 32 (d := d_Scene_init) rfl
    exact dm_of F fun _ _ _ _ _ _ us hl => match us, hl with | [_, _], _ => rfl
  Scene_beat := by
    obtain ⟨fd, F⟩ := c.def_ 33 (d := d_Scene_beat) rfl
    exact dm_of F fun _ _ _ _ _ _ us hl => match us, hl with | [_, _], _ => rfl
  Scene_held := by
    obtain ⟨fd, F⟩ := c.def_ 34 (d := d_Scene_held) rfl
    exact dm_of F fun _ _ _ _ _ _ us hl => match us, hl with | [_], _ => rfl
  Module_init := by
    obtain ⟨fd, F⟩ := c.def_ 35 (d := d_Module_init) rfl
    exact dm_of F fun _ _ _ _ _ _ us hl => match us, hl with | [_, _, _], _ => rfl
  c_Face := ⟨cls_ok (c.fact 33 (f := .cls "Face") rfl), mkr_ok (c.fact 39 (f := .mkr "Face") rfl), glo_ok X G (c.fact 27 (f := .glo "Face") rfl)⟩
  c_Scope := ⟨cls_ok (c.fact 34 (f := .cls "Scope") rfl), mkr_ok (c.fact 40 (f := .mkr "Scope") rfl), glo_ok X G (c.fact 28 (f := .glo "Scope") rfl)⟩
  c_Unit := ⟨cls_ok (c.fact 35 (f := .cls "Unit") rfl), mkr_ok (c.fact 41 (f := .mkr "Unit") rfl), glo_ok X G (c.fact 29 (f := .glo "Unit") rfl)⟩
  c_Sight := ⟨cls_ok (c.fact 36 (f := .cls "Sight") rfl), mkr_ok (c.fact 42 (f := .mkr "Sight") rfl), glo_ok X G (c.fact 30 (f := .glo "Sight") rfl)⟩
  c_Scene := ⟨cls_ok (c.fact 37 (f := .cls "Scene") rfl), mkr_ok (c.fact 43 (f := .mkr "Scene") rfl), glo_ok X G (c.fact 31 (f := .glo "Scene") rfl)⟩
  c_Module := ⟨cls_ok (c.fact 38 (f := .cls "Module") rfl), mkr_ok (c.fact 44 (f := .mkr "Module") rfl), glo_ok X G (c.fact 32 (f := .glo "Module") rfl)⟩
  n_Face_ins := noat_ok (c.fact 45 (f := .noat "Face" "ins") rfl)
  n_Face_outs := noat_ok (c.fact 46 (f := .noat "Face" "outs") rfl)
  n_Scope_known := noat_ok (c.fact 47 (f := .noat "Scope" "known") rfl)
  n_Scope_widths := noat_ok (c.fact 48 (f := .noat "Scope" "widths") rfl)
  n_Scope_used := noat_ok (c.fact 49 (f := .noat "Scope" "used") rfl)
  n_Scope_waiting := noat_ok (c.fact 50 (f := .noat "Scope" "waiting") rfl)
  n_Scope_ins := noat_ok (c.fact 51 (f := .noat "Scope" "ins") rfl)
  n_Scope_outs := noat_ok (c.fact 52 (f := .noat "Scope" "outs") rfl)
  n_Unit_module := noat_ok (c.fact 53 (f := .noat "Unit" "module") rfl)
  n_Unit_holding := noat_ok (c.fact 54 (f := .noat "Unit" "holding") rfl)
  n_Unit_later := noat_ok (c.fact 55 (f := .noat "Unit" "later") rfl)
  n_Unit_used := noat_ok (c.fact 56 (f := .noat "Unit" "used") rfl)
  n_Sight_fed := noat_ok (c.fact 57 (f := .noat "Sight" "fed") rfl)
  n_Sight_names := noat_ok (c.fact 58 (f := .noat "Sight" "names") rfl)
  n_Sight_outs := noat_ok (c.fact 59 (f := .noat "Sight" "outs") rfl)
  n_Sight_given := noat_ok (c.fact 60 (f := .noat "Sight" "given") rfl)
  n_Scene_ins := noat_ok (c.fact 61 (f := .noat "Scene" "ins") rfl)
  n_Scene_unit := noat_ok (c.fact 62 (f := .noat "Scene" "unit") rfl)
  n_Module_name := noat_ok (c.fact 63 (f := .noat "Module" "name") rfl)
  n_Module_rows := noat_ok (c.fact 64 (f := .noat "Module" "rows") rfl)
  m_Scope_is_free := meth_ok (c.fact 65 (f := .meth "Scope" "is_free") rfl)
  m_Scene_beat := meth_ok (c.fact 66 (f := .meth "Scene" "beat") rfl)
  m_Scene_held := meth_ok (c.fact 67 (f := .meth "Scene" "held") rfl)
  z_len := free_ok X G (c.fact 68 (f := .free "len") rfl)
  z_range := free_ok X G (c.fact 69 (f := .free "range") rfl)
  z_list := free_ok X G (c.fact 70 (f := .free "list") rfl)
  z_enumerate := free_ok X G (c.fact 71 (f := .free "enumerate") rfl)
  z_zip := free_ok X G (c.fact 72 (f := .free "zip") rfl)
  z_int := free_ok X G (c.fact 73 (f := .free "int") rfl)
  z_tuple := free_ok X G (c.fact 74 (f := .free "tuple") rfl)
  z_isinstance := free_ok X G (c.fact 75 (f := .free "isinstance") rfl)
  z_dict := free_ok X G (c.fact 76 (f := .free "dict") rfl)
  z_str := free_ok X G (c.fact 77 (f := .free "str") rfl)
  z_bool := free_ok X G (c.fact 78 (f := .free "bool") rfl)
  z_max := free_ok X G (c.fact 79 (f := .free "max") rfl)
  z_all := free_ok X G (c.fact 80 (f := .free "all") rfl)
  i_WIDEST := int_ok X G (c.fact 81 (f := .int "WIDEST" 16) rfl)
end K11
set_option maxHeartbeats 4000000
namespace K11
open PySem PySem.Spec PyProof.Rows L2 He
theorem fd_eq {K : PySem.W.Frag} {x q : Str} {pa : Arguments} {bd : List Stmt} {sc : Scope} {dv : List V} {kw : List (Str × V)} {f : Addr} {fd : FuncData} (F : FunD K x q pa bd sc dv kw f fd) : fda K f = fd := by
  obtain ⟨oc, od, dV, kV, doc, pm, an, cdv, ct, osl, rfl, lk, _⟩ := F.ex
  exact fda_eq lk
theorem facts {P : Program} {w : World} {K : PySem.W.Frag} {h : Heap} {mg : Str → Option Value} {f : Addr} (X : K.In h) (G : h.Ns mainGlobals mg) (hfa : mg ("law" : Str) = some (.ref f)) (c : SaysD fas fns K) :
    ∃ fd : FuncData, (∀ (s : Shared) (v : Value), BindsTo s fd ⟨[v], []⟩ [("_law_script", v)]) ∧ ∀ base : Heap, K.In base → base.Ns mainGlobals mg → FnOk P w K mg base CX0 19 f fd ["_law_script"] (spLaw K) := by
  have T := tx_of X G c
  obtain ⟨fd, F⟩ := c.def_ 26 (d := d_law) rfl
  have e := hfa.symm.trans T.law.gl
  cases e
  have b := FunD.bindsA (ps := ["_law_script"]) F fun _ _ _ _ _ _ us hl => match us, hl with | [_], _ => rfl
  have ef : fda K (ga K "law") = fd := fd_eq F
  refine ⟨fd, fun s v => b s [v] rfl, fun base _ _ => ?_⟩
  rw [← ef]
  exact ok_law T
end K11
open PySem PySem.W PySem.Calls PyProof.Rows
set_option maxRecDepth 100000 in
set_option maxHeartbeats 0 in
theorem PySem.Challenge.cw_bitfloor_k11_values_holds : PySem.Challenge.rw_bitfloor_k11_values.Holds := by
  w_on; o_law
  refine HandSHeadRun.head_any (r := OpenLaw.row PySem.Challenge.rw_bitfloor_k11_values) (q := view (OpenLaw.row PySem.Challenge.rw_bitfloor_k11_values).prog [47]) (H := K11.hk) (ob := K11.ob) (M := 6000) (loose := K11.lns) (d := HandSHeadRun.topDef (OpenLaw.row PySem.Challenge.rw_bitfloor_k11_values).prog 47) (kwd := []) K11.ob_eq
    (by kernel_rfl) (fun s => by kernel_rfl) K11.run (by kernel_rfl) (by kernel_rfl) (by kernel_rfl) (by rfl) (by first | assumption | decide +kernel) (by decide +kernel) ⟨rfl, rfl, rfl, rfl, rfl, by decide +kernel⟩ ?hw ?hc
  case hw => w_witness2
  case hc =>
    refine L2.walk_ofE (l := PySem.Challenge.rw_bitfloor_k11_values) (n := 63) (k := 19) (x := "_law_script") (CX := L2.CX0) rfl (by decide) (by kernel_rfl) ⟨rfl, by decide, by decide⟩ ?F (fun _ _ _ _ z => z)
    intro w mg fa h Y G hmg0
    obtain ⟨K, KX, c⟩ := Y
    have hmg : mg ("law" : PySem.Str) = some (.ref fa) := by
      have e : (HandSHeadRun.topDef (OpenLaw.row PySem.Challenge.rw_bitfloor_k11_values).prog 47).name = ("law" : PySem.Str) := by kernel_rfl
      rw [← e]
      exact hmg0
    obtain ⟨fd, hb, hF⟩ := K11.facts (P := (PySem.Challenge.rw_bitfloor_k11_values).prog) (w := w) KX G hmg c
    exact ⟨K, fd, K11.spLaw K, KX, hb, fun H a ns hl _ hS => ⟨a, ns, rfl, hS, hl, fun _ => rfl⟩, hF⟩
