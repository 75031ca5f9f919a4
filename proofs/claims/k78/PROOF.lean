import PyProof.Rows.All
import Wide.All
import OpenK.AllK
import Wide.FinOn
import HandS.ForMost
import HandS.Zip
import HandS.Style
import HandS.IsInst
import HandS.Deep
import HandS.Defaults
import HandS.Flow
import HandS.Walk
import HandS.Flt
import KE.DataMinMax
import KE.GoesEnum
import HandS.Strs
import HandS.SortInts
import HandS.SetFor
import HandS.Star
import HandS.TupAny
import HandS.TupMul
import HandS.Wide
import HandS.Conv
import PySem.Challenge.RW_piecesapart_k78_whole_one_need_three_bor
set_option Elab.async false
set_option linter.all false
set_option maxRecDepth 100000
set_option maxHeartbeats 8000000
namespace Hl
open PySem PySem.Spec PyProof.Rows L2

/-! ### heaps that grow -/
theorem seqT {K : PySem.W.Frag} {H H' : Hp} {a : Addr} {xs : List V} (e : Same H H') (h : SqT K H a xs) : SqT K H' a xs := by
  rcases h with (h | ⟨o, h⟩) | h
  · exact .inl (.inl (e _ _ h))
  · exact .inl (.inr ⟨o, e _ _ h⟩)
  · exact .inr h
theorem same_new {H : Hp} {p : Addr} {o : HO} (h : H p = none) : Same H (upd H p o) := fun b x e => by
  rw [upd_ne (ne_of_none e h)]
  exact e
/-- what H does not know may change -/
theorem same_mut {H H' : Hp} {p : Addr} {o : HO} (e : Same H H') (h : H p = none) : Same H (upd H' p o) := fun b x hb => by
  rw [upd_ne (ne_of_none hb h)]
  exact e b x hb
theorem room65 {k : Nat} {A : Around} (r : Room k A) : A.units + 65 < cLine := by
  have := r.un
  omega
mutual
theorem dp_mono {K : PySem.W.Frag} {H H' : Hp} (e : Same H H') : ∀ {v : V} {d : PyData}, Dp K H v d → Dp K H' v d
  | _, _, .non => .non
  | _, _, .bl b => .bl b
  | _, _, .int i => .int i
  | _, _, .str x => .str x
  | _, _, .lst h a => .lst (e.seq h) (dps_mono e a)
  | _, _, .tup h a => .tup (seqT e h) (dps_mono e a)
theorem dps_mono {K : PySem.W.Frag} {H H' : Hp} (e : Same H H') : ∀ {vs : List V} {ds : List PyData}, DpAll K H vs ds → DpAll K H' vs ds
  | _, _, .nil => .nil
  | _, _, .cons h t => .cons (dp_mono e h) (dps_mono e t)
end
theorem dps_len {K : PySem.W.Frag} {H : Hp} : ∀ {vs : List V} {ds : List PyData}, DpAll K H vs ds → vs.length = ds.length
  | _, _, .nil => rfl
  | _, _, .cons _ t => by rw [List.length_cons, List.length_cons, dps_len t]
theorem dps_get {K : PySem.W.Frag} {H : Hp} : ∀ {vs : List V} {ds : List PyData} {i : Nat} {v : V}, DpAll K H vs ds → vs[i]? = some v → ∃ d, ds[i]? = some d ∧ Dp K H v d
  | _, _, _, _, .nil, h => by simp at h
  | _, _, 0, _, .cons h _, e => by simp at e; subst e; exact ⟨_, rfl, h⟩
  | _, _, i + 1, v, .cons _ t, e => by
    obtain ⟨d, h1, h2⟩ := dps_get (i := i) (v := v) t (by simpa using e)
    exact ⟨d, by simpa using h1, h2⟩
theorem dps_app {K : PySem.W.Frag} {H : Hp} : ∀ {vs ws : List V} {ds es : List PyData}, DpAll K H vs ds → DpAll K H ws es → DpAll K H (vs ++ ws) (ds ++ es)
  | _, _, _, _, .nil, h => h
  | _, _, _, _, .cons h t, u => .cons h (dps_app t u)
theorem dps_ints {K : PySem.W.Frag} {H : Hp} : ∀ ns : List Int, DpAll K H (ns.map V.int) (ns.map PyData.int)
  | [] => .nil
  | n :: r => .cons (.int n) (dps_ints r)
/-- an int's data -/
theorem dp_int {K : PySem.W.Frag} {H : Hp} {v : V} {i : Int} (h : Dp K H v (.int i)) : v = .int i := by cases h; rfl

/-! ### a def of the text that stands behind the top, with its promise -/
structure Df (P : Program) (w : World) (K : PySem.W.Frag) (mg : Str → Option Value) (base : Heap) (k : Nat) (nm : Str) (ps : List Str) (sp : Sp) where
  f : Addr
  fd : FuncData
  ok : FnOk P w K mg base CX0 k f fd ps sp
  m : mg nm = some (.ref f)
  kp : PySem.W.keepIn K (.ref f) = true
  b : Binds K fd ps []

theorem nofn {P : Program} {w : World} {K : PySem.W.Frag} {mg : Str → Option Value} {base : Heap} {CX : CXT} {k : Nat} {f : Addr} {fd : FuncData} {ps : List Str} : FnOk P w K mg base CX k f fd ps (fun _ _ _ _ => False) := ⟨fun _ _ _ _ h => h.elim, fun _ _ _ _ _ _ _ _ _ _ _ _ _ h => h.elim⟩
theorem fnok_or {P : Program} {w : World} {K : PySem.W.Frag} {mg : Str → Option Value} {base : Heap} {CX : CXT} {k : Nat} {f : Addr} {fd : FuncData} {ps : List Str} {sp sp' : Sp} (F : FnOk P w K mg base CX k f fd ps sp) (G : FnOk P w K mg base CX k f fd ps sp') :
    FnOk P w K mg base CX k f fd ps (fun vs H Q E => sp vs H Q E ∨ sp' vs H Q E) where
  len := fun vs H Q E h => h.elim (F.len vs H Q E) (G.len vs H Q E)
  run := fun A outer s H args us vs Q E hr he hb hv h => h.elim (F.run A outer s H args us vs Q E hr he hb hv) (G.run A outer s H args us vs Q E hr he hb hv)
section
variable {X : Cx} {CX : CXT} {k : Nat} {f C : Addr} {fd : FuncData} {ps ks : List Str} {sp : Sp} {E : XK} {x m : Str} {p pos apos kpos : Pos} {e o : Expr} {es : List Expr} {kws : List Keyword} {te ta : TE} {t tk : TA} {nm : Option Str}
variable {g : List Value → List Value → List Value} {gV : List V → List V → List V}
/-- f(k = v, ..) -/
theorem pe_callK0 (F : FnOk X.prog X.w X.K X.mg X.base CX k f fd ps sp) (hr : Room k X.A) (hg : Gl X x) (hm : X.mg x = some (.ref f)) (hk : PySem.W.keepIn X.K (.ref f) = true) (hb : KBinds X.K fd ps ks g gV) (hx : Passes CX X E)
    (hkw : PK X kws tk) (hall : (backToKw pos (keywordEach kws X.env)).all (·.1.isSome) = true := by rfl) (hks : (backToKw pos (keywordEach kws X.env)).filterMap (·.1) = ks := by rfl)
    (hdb : (x == ("__debug__" : Str)) = false := by decide)
    (hpl : ((backTo pos (starEach [] X.env)).any (·.1) || (backToKw pos (keywordEach kws X.env)).any (·.1.isNone)) = false := by rfl) :
    PE X (.Call (.Name x p) [] kws pos) (tCallK sp gV E tNil tk) := by
  refine ⟨fun pins s σ H Q I h => ?_⟩
  refine wpAny_Call_Name_kw (ld_glob I hg hm ?_ hdb)
  refine PySem.W.callWith_KW0 (h₀ := X.base) I.ok.mod.kin hk hall ?_ hpl
  refine thn (hkw.run pos pins s σ H _ I h) fun ws s2 ⟨zs, H2, I2, rz, q2⟩ => ⟨I2.kIn, ?_⟩
  rw [hks]
  exact run_fnk (us := []) (vs := []) F hr hb hx I2 .nil rz q2
end

/-! ### enumerate(tuple) -/
theorem meets_enumerate_newT {v : Value} {o : Obj} {H : Heap → Prop} (B : Begins v o H) :
    Meets (Builtin.«enumerate.__new__» ⟨[.type "enumerate", v], []⟩) (fun _ R s => H s.heap ∧
      R (.ok (.ret (.ref (s.heap.push o).objs.size))) { s with heap := (s.heap.push o).push { cls := .type "enumerate", data := .fields #[.none, .bool false, .ref s.heap.objs.size, rawInt 0, .none, .none] } }) :=
  .of_wp fun prog w A R s h => by
    obtain ⟨hp, g, d, tk, os⟩ := s; obtain ⟨h1, h⟩ := h
    have hsub := sub_enumerate
    have q1 : ∀ {A' : Around} {E : Value → Shared → Prop} {Q : Value → Shared → Prop}, Q (.ref hp.objs.size) ⟨hp.push o, g, d, tk, os⟩ → wpAny (model prog w) A' (pyIter v) Q E ⟨hp, g, d, tk, os⟩ :=
      fun q => B.iter prog w _ _ ⟨hp, g, d, tk, os⟩ _ h1 q
    wp_walk using q1
    refine wpAny_stack_any fun st => wpAny_pure ?_
    split
    · rename_i c _ _ _ _ _
      cases (c == Value.type "enumerate")
      · wp_walk using q1
        exact ⟨_, rfl, h⟩
      · wp_walk using q1
        exact ⟨_, rfl, h⟩
    · wp_walk using q1
      exact ⟨_, rfl, h⟩
theorem call_enumerate_tuple {prog : Program} {w : World} {A : Around} {E : Value → Shared → Prop} {s : Shared} {l : Addr} {items : Array Value} {Q : Value → Shared → Prop} (hL : s.heap.IsTuple l items)
    (h : ∀ h', IsEnum h' (s.heap.objs.size + 1) s.heap.objs.size 0 .none → h'.IsTupleIter s.heap.objs.size l 0 → h'.objs.size = s.heap.objs.size + 2 →
      (∀ b o, s.heap.get? b = some o → h'.get? b = some o) → Q (.ref (s.heap.objs.size + 1)) { s with heap := h' }) :
    wpAny (model prog w) A (call (.type "enumerate") [.ref l]) Q E s := by
  refine callType_new F.called_enumerate (by decide) (F.typeCall_enumerate_1 _) (F.newCall_enumerate_1 _) (fun obj => F.args_object_init_2 obj _) F.entry_enumerate_new
    (meets_enumerate_newT (begins_tuple l items)) ⟨hL, ?_⟩
  have hz : (s.heap.push { cls := .type "tuple_iterator", data := .fields #[.ref l, .int 0 0] }).objs.size = s.heap.objs.size + 1 := Heap.size_push ..
  show _ ∧ _
  rw [hz]
  have he : IsEnum ((s.heap.push { cls := .type "tuple_iterator", data := .fields #[.ref l, .int 0 0] }).push
      { cls := .type "enumerate", data := .fields #[.none, .bool false, .ref s.heap.objs.size, rawInt 0, .none, .none] }) (s.heap.objs.size + 1) s.heap.objs.size 0 .none := by
    have := Heap.get?_push_size (s.heap.push { cls := .type "tuple_iterator", data := .fields #[.ref l, .int 0 0] })
      (o := { cls := .type "enumerate", data := .fields #[.none, .bool false, .ref s.heap.objs.size, rawInt 0, .none, .none] }) rfl
    rw [hz] at this; exact this
  refine ⟨⟨_, he, rfl⟩, h _ he ⟨_, Heap.get?_push_of_some _ (Heap.get?_push_size _ rfl), rfl, rfl⟩ (by rw [Heap.size_push, hz]) fun b o x => Heap.get?_push_of_some _ (Heap.get?_push_of_some _ x)⟩
def IteT (K : PySem.W.Frag) (a : Addr) : It :=
  ⟨fun i H => ∃ (xs : List V) (x : V), SqT K H a xs ∧ xs[i]? = some x, fun i H v H' => ∃ T x, v = .ref T ∧ H T = none ∧ H' = upd H T (.tup [.int (i : Nat), x]) ∧ ∀ xs, SqT K H a xs → xs[i]? = some x, fun i H => ∃ xs : List V, SqT K H a xs ∧ xs.length = i⟩
theorem turn_enumT {P : Program} {w : World} {K : PySem.W.Frag} {elts : List Expr} {kk : Nat} {tpos : Pos} (a e it : Addr) (hai : a ≠ it) (hea : e ≠ a) :
    Turn P w K (.Tuple elts kk tpos) (IteT K a) [e, it] e (fun i h => (∃ old, IsEnum h e it ((i : Nat) : Int) old) ∧ h.IsTupleIter it a i ∧ e ≠ it) where
  mem := by simp
  obj := fun i h st b hb => by
    obtain ⟨⟨old, he⟩, ⟨o, ho, hc, hd⟩, _⟩ := st
    have e' : b = e ∨ b = it := by simpa using hb
    rcases e' with z | z
    · rw [z]; exact ⟨_, he, fun v q => nomatch q⟩
    · rw [z]; exact ⟨o, ho, fun v q => by rw [hd] at q; cases q⟩
  keep := fun i h h' st k => let ⟨⟨old, he⟩, hi, hne⟩ := st; ⟨⟨old, k e (by simp) _ he⟩, hi.at fun o q => k it (by simp) o q, hne⟩
  item := by
    intro X hP hw hK hc i pins s σ H E I hf st hg
    subst hP hw hK
    obtain ⟨⟨old, he⟩, hit, hne⟩ := st
    obtain ⟨xs, x, hq, hx⟩ := hg
    obtain ⟨its, rv, p, hz⟩ := I.tuple hq
    obtain ⟨u, hu, ru⟩ := rv.get hx
    have hlt : i < its.toArray.size := by
      obtain ⟨h1, _⟩ := List.getElem?_eq_some_iff.mp hu
      simpa using h1
    have hel : e < s.heap.objs.size := Heap.lt_size he
    have hil : it < s.heap.objs.size := by obtain ⟨_, q, _⟩ := hit; exact Heap.lt_size q
    refine wpAny_pyNext_enum_itemD (Draws.tuple (A := X.A.in1) (I.ok.hd hc) it a hai its.toArray) he ⟨hit, p⟩ hlt hne (by simp; exact ⟨hne, hea⟩) fun y h' tk hy ho hst hT hsz hk => ?_
    obtain rfl : y = u := by
      have z : its.toArray[i]? = some u := by simpa using hu
      exact Option.some.inj ((show its.toArray[i]? = some y from hy).symm.trans z)
    refine ⟨_, rfl, wpAny_letOwnedTupleGo_enum (s := { s with heap := h', toks := tk + 1 }) ho fun h'' he' sb => ?_⟩
    have hT2 : h''.get? s.heap.objs.size = some { cls := .type "tuple", data := .seq #[.int i tk, y] } := (sb.2 _ (Nat.ne_of_gt hel)).trans hT
    have new : ObjOk X.prog X.w (upd H s.heap.objs.size (.tup [.int (i : Nat), x])) h'' s.heap.objs.size (.tup [.int (i : Nat), x]) :=
      ⟨by show 2 ≤ sizeLine; decide, [.int i tk, y], .cons ⟨_, rfl⟩ (.cons ru .nil), ⟨_, hT2, rfl, _, rfl⟩⟩
    have I1 : Inv X pins σ (upd H s.heap.objs.size (.tup [.int (i : Nat), x])) { s with heap := h'', toks := tk + 1 } :=
      I.turnedNew (ch := [e, it]) (fun b ob hb q => (sb.2 b (fun z => hb (by simp [z]))).trans (hk b ob (fun z => hb (by simp [z])) (fun z => hb (by simp [z])) q)) hf (Nat.le_refl _) new
    refine ⟨.ref s.heap.objs.size, _, I1, rfl, ⟨_, x, rfl, I.hok.fresh (Nat.le_refl _), rfl, fun ys hy => by rw [I.tuple_inj hy hq]; exact hx⟩, ⟨⟨y, ?_⟩, hst.1.at fun o q => (sb.2 it (Ne.symm hne)).trans q, hne⟩, fun b hb => ?_⟩
    · have e1 : ((i + 1 : Nat) : Int) = (i : Int) + 1 := by omega
      rw [e1]; exact he'
    · have hb' : b < s.heap.objs.size := by
        have e' : b = e ∨ b = it := by simpa using hb
        rcases e' with z | z
        · rw [z]; exact hel
        · rw [z]; exact hil
      rw [upd_ne (Nat.ne_of_lt hb')]
      exact (hf b hb).1
  done := by
    intro X hP hw hK hc i pins s σ H E I hf st hg
    subst hP hw hK
    obtain ⟨⟨old, he⟩, hit, hne⟩ := st
    obtain ⟨xs, hq, hx⟩ := hg
    obtain ⟨its, rv, p, hz⟩ := I.tuple hq
    obtain ⟨f0, f1, f2, f3, f4, f5⟩ := hf it (by simp)
    have hl := rv.length
    have hi : i = its.toArray.size := by simp; omega
    exact wpAny_pyNext_enum_endD (Draws.tuple (A := X.A.in1) (I.ok.hd hc) it a hai its.toArray) he ⟨hi ▸ hit, p⟩ fun h' eb => ⟨rfl, I.turned (t' := s.toks) (fun b o hb q => eb b o hb q) f0 f1 f3 f4 f5⟩
  self := fun A i s Q E st h => let ⟨⟨_, he⟩, _⟩ := st; wpAny_pyIter_enum he h
def iEnumT (K : PySem.W.Frag) (ta : TA) : TI := fun σ H R => ta σ H fun vs H1 => ∃ a xs, vs = [.ref a] ∧ SqT K H1 a xs ∧ R (IteT K a) H1
theorem pi_enumT {X : Cx} {e : Expr} {ta : TA} {p pos tpos : Pos} {elts : List Expr} {kk : Nat} (hg : Gl X "enumerate") (hm : X.mg "enumerate" = none) (ha : PA X [e] ta) (hs : starEach [e] X.env = [(false, eval e X.env)] := by rfl) :
    PI X (.Tuple elts kk tpos) (.Call (.Name "enumerate" p) [e] [] pos) (iEnumT X.K ta) := by
  refine ⟨fun pins s σ H R I h => ?_⟩
  refine Call_ (ld_blt I hg hm boot_enumerate (PyProof.Rows.callWith_type1 (thn (ha.run pos pins s σ H _ I h) fun us s1 ⟨vs, H1, I1, r1, q1⟩ => ?_) hs rfl))
  obtain ⟨a, xs, ex, hq, q⟩ := q1
  subst ex
  cases r1 with
  | cons r rr =>
    cases rr
    cases r
    obtain ⟨its, rv, p', hz⟩ := I1.tuple hq
    have hal : a < s1.heap.objs.size := p'.lt
    refine call_enumerate_tuple (items := its.toArray) p' fun h' he hit hsz hk => wpAny_pyIter_enum he ?_
    have I2 : Inv X pins σ H1 { s1 with heap := h' } := I1.kept (t' := s1.toks) hk
    refine ⟨s1.heap.objs.size + 1, [s1.heap.objs.size + 1, s1.heap.objs.size], _, _, H1, rfl, I2, turn_enumT a (s1.heap.objs.size + 1) s1.heap.objs.size (Nat.ne_of_lt hal) (Ne.symm (Nat.ne_of_lt (Nat.lt_succ_of_lt hal))), ⟨⟨.none, he⟩, hit, Nat.succ_ne_self _⟩, fun b hb => ?_, q⟩
    have e' : b = s1.heap.objs.size + 1 ∨ b = s1.heap.objs.size := by simpa using hb
    have hle : s1.heap.objs.size ≤ b := by
      rcases e' with z | z
      · rw [z]; exact Nat.le_add_right _ _
      · rw [z]; exact Nat.le_refl _
    exact I1.fpOk hle (I1.hok.fresh hle)
theorem walk_enumT {K : PySem.W.Frag} {a : Addr} {xs : List V} : Walk (IteT K a) xs.length (fun H => SqT K H a xs) (YPair (fun i => some (.int (i : Nat))) (fun i => xs[i]?)) where
  goes := fun i H hi h => ⟨xs, xs[i], h, List.getElem?_eq_getElem hi⟩
  stops := fun H h => ⟨xs, h, rfl⟩
  yields := fun i H x H' _ h hy => by
    obtain ⟨T, y, rfl, hT, rfl, e⟩ := hy
    exact ⟨T, _, y, rfl, hT, rfl, rfl, e xs h⟩
theorem ite_dec {c A B : Prop} [Decidable c] (h1 : c → A) (h2 : ¬ c → B) : if decide c = true then A else B := by
  by_cases h : c
  · rw [decide_eq_true h]; exact iteT (h1 h)
  · rw [decide_eq_false h]; exact iteF (h2 h)
section
variable {X : Cx} {x : Str} {pos : Pos}
/-- a built-in class as a value -/
theorem pe_ty (T : String) (hg : Gl X x) (hm : X.mg x = none) (hv : bootBuiltins x = some (.type T) := by decide +kernel) (hn : x ≠ "__name__" := by decide) (hd : (x == ("__debug__" : Str)) = false := by decide) : PE X (.Name x pos) (tC (.ty T)) :=
  pe_bltn hg hm hv rfl hn hd
end
section
variable {K : PySem.W.Frag} {H : Hp} {Q : VK} {x : V} {a : Addr}
/-- isinstance, not to be looked into -/
structure RIs (K : PySem.W.Frag) (vs : List V) (H : Hp) (Q : VK) : Prop where
  h : rIsi K vs H Q
theorem call_isiS {X : Cx} : CallR X (.builtin "isinstance") (RIs X.K) := fun pins s σ H xs us Q I r h => call_isi pins s σ H xs us Q I r h.h
theorem isi_of {T U : String} {b : Bool} (ty : TyX K H x (.type T)) (h : kitB T U = some b) (q : Q (.bl b) H) : RIs K [x, .ty U] H Q := ⟨⟨_, _, _, _, _, rfl, .ty U, ty, kit_ty h, q⟩⟩
theorem isi_int (i : Int) (q : Q (.bl true) H) : RIs K [.int i, .ty "int"] H Q := isi_of (.base (.int i)) (by decide +kernel) q
theorem isi_intb (i : Int) (q : Q (.bl false) H) : RIs K [.int i, .ty "bool"] H Q := isi_of (.base (.int i)) (by decide +kernel) q
theorem ty_tup {xs : List V} (h : SqT K H a xs) : TyX K H (.ref a) (.type "tuple") := by
  rcases h with (h | ⟨o, h⟩) | ⟨o, its, n, l, c, _⟩
  · exact .base (.tup h)
  · exact .fTuple h
  · exact .kTuple l c
theorem ty_lst {xs : List V} (h : SqL K H a xs) : TyX K H (.ref a) (.type "list") := by
  rcases h with (h | ⟨o, h⟩) | ⟨o, its, n, l, c, _⟩
  · exact .base (.lst h)
  · exact .base (.frz h)
  · exact .kList l c
/-- the name of a data's type -/
def tyName : PyData → String
  | .none => "NoneType"
  | .bool _ => "bool"
  | .int _ => "int"
  | .str _ => "str"
  | .list _ => "list"
  | .tuple _ => "tuple"
  | _ => ""
end
theorem ty_dp {K : PySem.W.Frag} {H : Hp} : ∀ {v : V} {d : PyData}, Dp K H v d → TyX K H v (.type (tyName d))
  | _, _, .non => .base .non
  | _, _, .bl b => .base (.bl b)
  | _, _, .int i => .base (.int i)
  | _, _, .str x => .base (.str x)
  | _, _, .lst h _ => ty_lst h
  | _, _, .tup h _ => ty_tup h
theorem isi_dp {K : PySem.W.Frag} {H : Hp} {Q : VK} {v : V} {d : PyData} {U : String} {b : Bool} (h : Dp K H v d) (e : kitB (tyName d) U = some b) (q : Q (.bl b) H) : RIs K [v, .ty U] H Q := isi_of (ty_dp h) e q
/-! ### the rules with K told (within a comprehension's block) -/
section
variable {X : Cx} {K : PySem.W.Frag}
theorem kix_list (h : X.K = K) : IxR X (rIxL K) := by subst h; exact ix_list
theorem kix_tup (h : X.K = K) : IxR X (rIxT K) := by subst h; exact ix_tup
theorem ksl_list (h : X.K = K) : SlR X (rSlL K) := by subst h; exact sl_list
theorem ksl_tup (h : X.K = K) : SlR X (rSlT K) := by subst h; exact sl_tup
theorem kcall_isiS (h : X.K = K) : CallR X (.builtin "isinstance") (RIs K) := by subst h; exact call_isiS
theorem kop_eqD (h : X.K = K) (hu : X.A.units + 64 < cLine) : OpR X (compareOp .Eq) (rEqD K) := by subst h; exact op_eqD hu
theorem kop_neD (h : X.K = K) (hu : X.A.units + 64 < cLine) : OpR X (compareOp .NotEq) (rNeD K) := by subst h; exact op_neD hu
theorem kop_in_seq (h : X.K = K) : OpR X (compareOp .In) (rIn K false) := by subst h; exact op_in_seq
theorem kop_notIn_seq (h : X.K = K) : OpR X (compareOp .NotIn) (rIn K true) := by subst h; exact op_notIn_seq
theorem kcall_len_seq (h : X.K = K) : CallR X (.builtin "len") (fun xs H Q => ∃ p ys, xs = [.ref p] ∧ (SqL K H p ys ∨ SqT K H p ys) ∧ Q (.int ys.length) H) := by subst h; exact call_len_seq
theorem kcall_tuple_of (h : X.K = K) : CallR X (.type "tuple") (fun xs H Q => ∃ p ys, xs = [.ref p] ∧ ((SqL K H p ys ∧ ∀ l, H l = none → Q (.ref l) (upd H l (.tup ys))) ∨ (SqT K H p ys ∧ Q (.ref p) H))) := by subst h; exact call_tuple_of
theorem kcall_list_of (h : X.K = K) : CallR X (.type "list") (fun xs H Q => ∃ p ys, xs = [.ref p] ∧ (SqL K H p ys ∨ SqT K H p ys) ∧ ∀ l, H l = none → Q (.ref l) (upd H l (.lst ys))) := by subst h; exact call_list_of
theorem kcr_sum (h : X.K = K) (hc : X.calm = true) : CallR X (.builtin "sum") (rSum K) := by subst h; exact cr_sum hc
theorem kcr_min (h : X.K = K) (hc : X.calm = true) : CallR X (.builtin "min") (rMin K) := by subst h; exact cr_min hc
theorem kcr_max (h : X.K = K) (hc : X.calm = true) : CallR X (.builtin "max") (rMax K) := by subst h; exact cr_max hc
theorem kcr_all (h : X.K = K) (hc : X.calm = true) : CallR X (.builtin "all") (rAll K) := by subst h; exact cr_all hc
theorem kcr_any (h : X.K = K) (hc : X.calm = true) : CallR X (.builtin "any") (rAny K) := by subst h; exact cr_any hc
theorem kop_catT (h : X.K = K) : OpR X (binaryOp .Add) (rCatT K) := by subst h; exact op_catT
variable {tg l e : Expr} {tl ta : TE} {f : Str} {pos : Pos}
theorem kpi_list (h : X.K = K) (hl : PE X l tl) : PI X tg l (iList K tl) := by subst h; exact pi_list hl
theorem kpi_tup (h : X.K = K) (hl : PE X l tl) : PI X tg l (iTup K tl) := by subst h; exact pi_tup hl
theorem kpe_fld (h : X.K = K) (he : PE X e ta) (hb : attributeBase e f X.env (eval e X.env) = eval e X.env) : PE X (.Attribute e f pos) (tFld K ta f) := by subst h; exact pe_fld he hb
theorem kpg_tup {es : List Expr} {k : Nat} {t : TGs} {n : Nat} (h : X.K = K) (hc : X.calm = true) (hp : PGs X es t) (hn : (assignEach es X.env).length = n := by rfl) (hst : (assignEach es X.env).findIdx? (·.1) = none := by rfl) : PG X (.Tuple es k pos) (gTup K n t) := by subst h; exact pg_tup hc hp hn hst
end
/-- a while by a word W that falls; Ex: what holds behind it -/
theorem while_ex {c : TT} {tb : TS} {D : Ends} {σ : L2.St} {H : Hp} (W : Nat → L2.St → Hp → Prop) (Ex : L2.St → Hp → Prop) (h0 : ∃ m, W m σ H)
    (hs : ∀ m σ H, W m σ H → ∀ Z : L2.St → Hp → Prop, (∀ σ' H', Ex σ' H' → Z σ' H') → c σ H fun b H1 => if b = true then ∃ N : L2.St → Hp → Prop, (∀ σ' H', N σ' H' → ∃ m', m' < m ∧ W m' σ' H') ∧ tb { D with nx := N, ct := N, bk := Z } σ H1 else Z σ H1)
    (hx : ∀ σ H, Ex σ H → D.nx σ H) : tWhile c tb D σ H := ⟨W, h0, fun m σ H h => hs m σ H h D.nx hx⟩
/-! ### comprehensions by a word over what is made -/
theorem walk_zipT {K : PySem.W.Frag} {a b : Addr} {xs ys : List V} {n : Nat} (hx : xs.length = n) (hy : ys.length = n) : Walk (RZ.ItzT K a b) n (fun H => SqT K H a xs ∧ SqT K H b ys) (YPair (fun i => xs[i]?) (fun i => ys[i]?)) where
  goes := fun i H hi h => ⟨xs, ys, _, _, h.1, h.2, List.getElem?_eq_getElem (by omega), List.getElem?_eq_getElem (by omega)⟩
  stops := fun H h => ⟨xs, ys, h.1, h.2, .inl (by omega)⟩
  yields := fun i H x H' _ h hy => by
    obtain ⟨T, y, z, rfl, hT, rfl, e1, e2⟩ := hy
    exact ⟨T, y, z, rfl, hT, rfl, e1 xs h.1, e2 ys h.2⟩
inductive Ers {α : Type} (Er : Hp → V → α → Prop) (H : Hp) : List V → List α → Prop
  | nil : Ers Er H [] []
  | cons {v : V} {a : α} {vs : List V} {l : List α} : Er H v a → Ers Er H vs l → Ers Er H (v :: vs) (a :: l)
section
variable {α : Type} {Er : Hp → V → α → Prop} {H H' : Hp}
theorem Ers.len : ∀ {vs : List V} {l : List α}, Ers Er H vs l → vs.length = l.length
  | _, _, .nil => rfl
  | _, _, .cons _ t => by rw [List.length_cons, List.length_cons, t.len]
theorem Ers.mono (m : ∀ y a, Er H y a → Er H' y a) : ∀ {vs : List V} {l : List α}, Ers Er H vs l → Ers Er H' vs l
  | _, _, .nil => .nil
  | _, _, .cons h t => .cons (m _ _ h) (t.mono m)
theorem Ers.mono' {Er' : Hp → V → α → Prop} (m : ∀ y a, Er H y a → Er' H y a) : ∀ {vs : List V} {l : List α}, Ers Er H vs l → Ers Er' H vs l
  | _, _, .nil => .nil
  | _, _, .cons h t => .cons (m _ _ h) (t.mono' m)
theorem Ers.snoc {y : V} {a : α} (h : Er H y a) : ∀ {vs : List V} {l : List α}, Ers Er H vs l → Ers Er H (vs ++ [y]) (l ++ [a])
  | _, _, .nil => .cons h .nil
  | _, _, .cons h' t => .cons h' (t.snoc h)
theorem Ers.app : ∀ {vs ws : List V} {l m : List α}, Ers Er H vs l → Ers Er H ws m → Ers Er H (vs ++ ws) (l ++ m)
  | _, _, _, _, .nil, h => h
  | _, _, _, _, .cons h t, u => .cons h (t.app u)
theorem Ers.get : ∀ {vs : List V} {l : List α} {i : Nat} {v : V}, Ers Er H vs l → vs[i]? = some v → ∃ a, l[i]? = some a ∧ Er H v a
  | _, _, _, _, .nil, h => by simp at h
  | _, _, 0, _, .cons h _, e => by simp at e; subst e; exact ⟨_, rfl, h⟩
  | _, _, i + 1, v, .cons _ t, e => by
    obtain ⟨d, h1, h2⟩ := Ers.get (i := i) (v := v) t (by simpa using e)
    exact ⟨d, by simpa using h1, h2⟩
/-- ints -/
def ErI : Hp → V → Int → Prop := fun _ y a => y = .int a
theorem Ers.ints {H : Hp} : ∀ {vs : List V} {l : List Int}, Ers ErI H vs l → vs = l.map V.int
  | _, _, .nil => rfl
  | _, _, .cons h t => by rw [List.map_cons, ← t.ints, show _ = V.int _ from h]
end
/-- [elt for .. if ..]: Rl how the heap goes on, Er what an item is, P the word over the items made so far -/
theorem lc_inv {α : Type} {J : It} {n : Nat} {G : Hp → Prop} {Y : Nat → Hp → V → Hp → Prop} (w : Walk J n G Y) (hn : n ≤ 100000) {g : TG} {tt : TT} {te : TE} {vs : List Nat} {σ : L2.St} {H1 : Hp} {D : Addr} {Qd : Hp → Prop}
    (Rl : Hp → Hp → Prop) (rr : ∀ H, Rl H H) (rt : ∀ H H' H'', Rl H H' → Rl H' H'' → Rl H H'') (rp : ∀ H o, Rl H1 H → Rl H1 (upd H D o)) (rk : ∀ H H' o, Rl H1 H → Rl H H' → H D = some o → H' D = some o)
    (Er : Hp → V → α → Prop) (em : ∀ H H' y a, Rl H1 H → Rl H H' → Er H y a → Er H' y a) (ep : ∀ H o y a, Rl H1 H → Er H y a → Er (upd H D o) y a)
    (P : Nat → List α → Prop) (h0 : P 0 []) (hG : ∀ H, Rl H1 H → G H)
    (hs : ∀ i x H H' l, i < n → Rl H1 H → (∃ acc, H D = some (.lst acc)) → P i l → Y i H x H' → ∀ (A : V → Hp → Prop) (B : Hp → Prop), (∀ y a H4, Rl H H4 → Er H4 y a → P (i + 1) (l ++ [a]) → A y H4) → (∀ H3, Rl H H3 → P (i + 1) l → B H3) →
      g x (wipe σ vs) H' fun σ2 H2 => wipe σ2 vs = wipe σ vs ∧ tt σ2 H2 fun b H3 => if b = true then te σ2 H3 A else B H3)
    (hd : ∀ H' us l, Rl H1 H' → H' D = some (.lst us) → Ers Er H' us l → P n l → Qd H') :
    ∃ W : Nat → Nat → Hp → Prop, (∃ m, W 0 m (upd H1 D (.lst []))) ∧ ∀ i m H, W i m H → (J.stop i H ∧ Qd H) ∨ (J.go i H ∧ ∃ Nx : Hp → Prop, (∀ H', Nx H' → ∃ m', m' < m ∧ W (i + 1) m' H') ∧ ∀ x H', J.yld i H x H' → g x (wipe σ vs) H' fun σ2 H2 => wipe σ2 vs = wipe σ vs ∧ tt σ2 H2 fun b H3 => if b = true then te σ2 H3 fun y H4 => ∃ acc, H4 D = some (.lst acc) ∧ acc.length < sizeLine ∧ Nx (upd H4 D (.lst (acc ++ [y]))) else Nx H3) := by
  refine lc_it w (fun i H => Rl H1 H ∧ ∃ us l, H D = some (.lst us) ∧ Ers Er H us l ∧ P i l ∧ l.length ≤ i) ⟨rp _ _ (rr _), [], [], upd_same, .nil, h0, Nat.le_refl _⟩ (fun i H _ h => hG H h.1) ?_ ?_
  · rintro i x H H' hi ⟨r, us, l, hD, hE, hP, hl⟩ hy
    refine hs i x H H' l hi r ⟨_, hD⟩ hP hy _ _ (fun y a H4 r4 e4 p4 => ?_) (fun H3 r3 p3 => ?_)
    · have r14 := rt _ _ _ r r4
      refine ⟨us, rk _ _ _ r r4 hD, ?_, rp _ _ r14, us ++ [y], l ++ [a], upd_same, ?_, p4, by rw [List.length_append]; exact Nat.succ_le_succ hl⟩
      · rw [hE.len]
        exact Nat.lt_of_le_of_lt (Nat.le_trans hl (Nat.le_trans (Nat.le_of_lt hi) hn)) (by decide)
      · exact (((hE.mono fun y a h => em _ _ y a r r4 h).snoc e4).mono fun y a h => ep _ _ y a r14 h)
    · exact ⟨rt _ _ _ r r3, us, l, rk _ _ _ r r3 hD, hE.mono fun y a h => em _ _ y a r r3 h, p3, Nat.le_succ_of_le hl⟩
  · rintro H ⟨r, us, l, hD, hE, hP, _⟩
    exact hd H us l r hD hE hP
theorem t_yes {σ : L2.St} {H : Hp} {P1 P2 : Hp → Prop} (h : P1 H) : tYes σ H (fun b H3 => if b = true then P1 H3 else P2 H3) := by
  show (if true = true then P1 H else P2 H)
  rw [if_pos rfl]
  exact h
/-- the same where the heap only grows -/
theorem lc_same {α : Type} {J : It} {n : Nat} {G : Hp → Prop} {Y : Nat → Hp → V → Hp → Prop} (w : Walk J n G Y) (hn : n ≤ 100000) {g : TG} {tt : TT} {te : TE} {vs : List Nat} {σ : L2.St} {H1 : Hp} {D : Addr} {Qd : Hp → Prop} (hD : H1 D = none)
    (Er : Hp → V → α → Prop) (em : ∀ H H' y a, Same H1 H → Same H H' → Er H y a → Er H' y a) (ep : ∀ H o y a, Same H1 H → Er H y a → Er (upd H D o) y a)
    (P : Nat → List α → Prop) (h0 : P 0 []) (hG : ∀ H, Same H1 H → G H)
    (hs : ∀ i x H H' l, i < n → Same H1 H → (∃ acc, H D = some (.lst acc)) → P i l → Y i H x H' → ∀ (A : V → Hp → Prop) (B : Hp → Prop), (∀ y a H4, Same H H4 → Er H4 y a → P (i + 1) (l ++ [a]) → A y H4) → (∀ H3, Same H H3 → P (i + 1) l → B H3) →
      g x (wipe σ vs) H' fun σ2 H2 => wipe σ2 vs = wipe σ vs ∧ tt σ2 H2 fun b H3 => if b = true then te σ2 H3 A else B H3)
    (hd : ∀ H' us l, Same H1 H' → H' D = some (.lst us) → Ers Er H' us l → P n l → Qd H') :
    ∃ W : Nat → Nat → Hp → Prop, (∃ m, W 0 m (upd H1 D (.lst []))) ∧ ∀ i m H, W i m H → (J.stop i H ∧ Qd H) ∨ (J.go i H ∧ ∃ Nx : Hp → Prop, (∀ H', Nx H' → ∃ m', m' < m ∧ W (i + 1) m' H') ∧ ∀ x H', J.yld i H x H' → g x (wipe σ vs) H' fun σ2 H2 => wipe σ2 vs = wipe σ vs ∧ tt σ2 H2 fun b H3 => if b = true then te σ2 H3 fun y H4 => ∃ acc, H4 D = some (.lst acc) ∧ acc.length < sizeLine ∧ Nx (upd H4 D (.lst (acc ++ [y]))) else Nx H3) :=
  lc_inv w hn Same Same.refl (fun _ _ _ a b => a.trans b) (fun H o h => same_mut h hD) (fun _ _ o _ h e => h _ _ e) Er em ep P h0 hG hs hd
/-! ### max, min of a tuple of ints, of three ints -/
theorem hl_lay_ints : ∀ ns : List Int, PyData.canLayAll0 (ns.map PyData.int) = true
  | [] => by simp [PyData.canLayAll0]
  | n :: r => by simp [PyData.canLayAll0, PyData.canLay0, hl_lay_ints r]
theorem hl_depth_ints : ∀ ns : List Int, PyData.depthAll (ns.map PyData.int) = 0
  | [] => by simp [PyData.depthAll]
  | n :: r => by
    have h := hl_depth_ints r
    simp only [List.map_cons, PyData.depthAll, PyData.depth, h]
    rfl
def rMaxT (K : PySem.W.Frag) : List V → Hp → VK → Prop := fun vs H Q => ∃ (a : Addr) (n : Int) (ns : List Int), vs = [V.ref a] ∧ SqT K H a ((n :: ns).map V.int) ∧ Q (.int (ns.foldl max n)) H
def rMinT (K : PySem.W.Frag) : List V → Hp → VK → Prop := fun vs H Q => ∃ (a : Addr) (n : Int) (ns : List Int), vs = [V.ref a] ∧ SqT K H a ((n :: ns).map V.int) ∧ Q (.int (ns.foldl min n)) H
theorem alike_ints (ns : List Int) : PySem.W.AlikeAll (ns.map PyData.int) := by
  refine ⟨fun x hx y hy => ?_, fun x hx => ?_⟩
  · obtain ⟨a, _, rfl⟩ := List.mem_map.mp hx
    obtain ⟨b, _, rfl⟩ := List.mem_map.mp hy
    rfl
  · obtain ⟨a, _, rfl⟩ := List.mem_map.mp hx
    exact fun z => nomatch z
theorem cr_maxT {X : Cx} (hc : X.calm = true) (hu : X.A.units + 65 < cLine) : CallR X (.builtin "max") (rMaxT X.K) := by
  intro pins s σ H vs us Q I r h
  obtain ⟨a, n, ns, rfl, hs, q⟩ := h
  obtain ⟨its, rv, hl, _⟩ := I.tuple hs
  rw [Vals.ref1 r]
  obtain ⟨as, hr⟩ := Dp.readsAll I _ _ its (dps_ints (n :: ns)) rv
  refine PySem.W.max_tuple_data (x := .int n) (xs := ns.map .int) (I.ok.hd hc) hl hr (alike_ints (n :: ns)) (by rw [show PyData.depthAll (PyData.int n :: ns.map .int) = 0 from hl_depth_ints (n :: ns)]; omega) fun i v h' tk bs _ hv hk => ?_
  rw [PySem.W.maxD_ints] at hv
  cases hv
  exact ⟨.int _, H, I.kept hk, ⟨_, rfl⟩, q⟩
theorem cr_minT {X : Cx} (hc : X.calm = true) (hu : X.A.units + 65 < cLine) : CallR X (.builtin "min") (rMinT X.K) := by
  intro pins s σ H vs us Q I r h
  obtain ⟨a, n, ns, rfl, hs, q⟩ := h
  obtain ⟨its, rv, hl, _⟩ := I.tuple hs
  rw [Vals.ref1 r]
  obtain ⟨as, hr⟩ := Dp.readsAll I _ _ its (dps_ints (n :: ns)) rv
  refine PySem.W.min_tuple_data (x := .int n) (xs := ns.map .int) (I.ok.hd hc) hl hr (alike_ints (n :: ns)) (by rw [show PyData.depthAll (PyData.int n :: ns.map .int) = 0 from hl_depth_ints (n :: ns)]; omega) fun i v h' tk bs _ hv hk => ?_
  rw [PySem.W.minD_ints] at hv
  cases hv
  exact ⟨.int _, H, I.kept hk, ⟨_, rfl⟩, q⟩
theorem kcr_minT {X : Cx} {K : PySem.W.Frag} (h : X.K = K) (hc : X.calm = true) (hu : X.A.units + 65 < cLine) : CallR X (.builtin "min") (rMinT K) := by subst h; exact cr_minT hc hu
theorem nuMax2_int (i j : Int) : nuMax2 (.int i) (.int j) = some (.int (if j > i then j else i)) := by
  show some (if decide (i < j) = true then V.int j else V.int i) = _
  by_cases h : i < j
  · rw [decide_eq_true h, if_pos rfl, if_pos h]
  · rw [decide_eq_false h, if_neg Bool.false_ne_true, if_neg h]
theorem nuMin2_int (i j : Int) : nuMin2 (.int i) (.int j) = some (.int (if j < i then j else i)) := by
  show some (if decide (j < i) = true then V.int j else V.int i) = _
  by_cases h : j < i
  · rw [decide_eq_true h, if_pos rfl, if_pos h]
  · rw [decide_eq_false h, if_neg Bool.false_ne_true, if_neg h]
def rMax3 : List V → Hp → VK → Prop := fun xs H Q => ∃ i j l : Int, xs = [.int i, .int j, .int l] ∧ Q (.int (if l > (if j > i then j else i) then l else (if j > i then j else i))) H
def rMin3 : List V → Hp → VK → Prop := fun xs H Q => ∃ i j l : Int, xs = [.int i, .int j, .int l] ∧ Q (.int (if l < (if j < i then j else i) then l else (if j < i then j else i))) H
theorem call_max3I {X : Cx} (hc : X.calm = true) : CallR X (.builtin "max") rMax3 := by
  intro pins s σ H xs us Q I r h
  obtain ⟨i, j, l, rfl, q⟩ := h
  refine call_max3Nu hc pins s σ H _ us Q I r ⟨_, _, _, _, rfl, ?_, q⟩
  show (nuMax2 (.int i) (.int j)).bind (fun m => nuMax2 m (.int l)) = _
  rw [nuMax2_int]
  exact nuMax2_int _ _
theorem call_min3I {X : Cx} (hc : X.calm = true) : CallR X (.builtin "min") rMin3 := by
  intro pins s σ H xs us Q I r h
  obtain ⟨i, j, l, rfl, q⟩ := h
  refine call_min3Nu hc pins s σ H _ us Q I r ⟨_, _, _, _, rfl, ?_, q⟩
  show (nuMin2 (.int i) (.int j)).bind (fun m => nuMin2 m (.int l)) = _
  rw [nuMin2_int]
  exact nuMin2_int _ _
/-! ### data that a law's own comparison takes -/
def Sc (C : PyData → Prop) (d : PyData) : Prop := d = .none ∨ (∃ b, d = .bool b) ∨ (∃ i, d = .int i) ∨ ∃ ds, d = .tuple ds ∧ ds.length ≤ 10000 ∧ ∀ x ∈ ds, C x
def ScF : PyData → Prop := fun _ => False
/-- equal data are told as equal -/
def spLike (K : PySem.W.Frag) (C : PyData → Prop) : Sp := fun vs H Q _ => ∃ v u d, vs = [v, u] ∧ Dp K H v d ∧ Dp K H u d ∧ C d ∧ ∀ H', Same H H' → Q (.bl true) H'
theorem spLike_no {P : Program} {w : World} {K : PySem.W.Frag} {mg : Str → Option Value} {base : Heap} {k : Nat} {f : Addr} {fd : FuncData} {ps : List Str} : FnOk P w K mg base CX0 k f fd ps (spLike K ScF) :=
  ⟨fun _ _ _ _ ⟨_, _, _, _, _, _, h, _⟩ => h.elim, fun _ _ _ _ _ _ _ _ _ _ _ _ _ ⟨_, _, _, _, _, _, h, _⟩ => h.elim⟩
/-- and, or of values whose answer is a bool -/
theorem and_rd {c : Bool} {A B : Prop} (h1 : c = true → A) (h2 : c = false → B) : ∃ c', V.bl c = .bl c' ∧ if c' = true then A else B := ⟨c, rfl, by
  cases c with
  | true => exact iteT (h1 rfl)
  | false => exact iteF (h2 rfl)⟩
theorem if_b {c : Bool} {A B : Prop} (h1 : c = true → A) (h2 : c = false → B) : if c = true then A else B := by
  cases c with
  | true => exact iteT (h1 rfl)
  | false => exact iteF (h2 rfl)
theorem if_n {c : Bool} {A B : Prop} (h1 : c = false → A) (h2 : c = true → B) : if (!c) = true then A else B := by
  cases c with
  | true => exact iteF (h2 rfl)
  | false => exact iteT (h1 rfl)
/-! ### a cut: what holds behind an expression, a test, a statement, told once -/
section
variable {X : Cx} {e : Expr} {te : TE} {tt : TT} {ts : TS} {sts : Stmt}
def cE (te : TE) : TE := fun σ H Q => ∃ φ : VK, te σ H φ ∧ ∀ v H', φ v H' → Q v H'
theorem pe_cut (h : PE X e te) : PE X e (cE te) := ⟨fun pins s σ H Q I ⟨φ, h1, h2⟩ => thn (h.run pins s σ H φ I h1) fun u s' ⟨v, H', I', r, q⟩ => ⟨v, H', I', r, h2 _ _ q⟩⟩
def cT (tt : TT) : TT := fun σ H Q => ∃ φ : Bool → Hp → Prop, tt σ H φ ∧ ∀ b H', φ b H' → Q b H'
theorem pt_cut (h : PT X e tt) : PT X e (cT tt) := ⟨fun pins s σ H Q I ⟨φ, h1, h2⟩ => thn (h.run pins s σ H φ I h1) fun u s' ⟨H', I', q⟩ => ⟨H', I', h2 _ _ q⟩⟩
def cS (ts : TS) : TS := fun D σ H => ∃ φ : L2.St → Hp → Prop, ts { D with nx := φ } σ H ∧ ∀ σ' H', φ σ' H' → D.nx σ' H'
theorem ps_cut (h : PS X sts ts) : PS X sts (cS ts) := ⟨fun pins s σ H D I ⟨φ, h1, h2⟩ => thn (h.run pins s σ H { D with nx := φ } I h1) fun f s' q => by
  cases f with
  | next =>
    obtain ⟨σ', H', I', q⟩ := q
    exact ⟨σ', H', I', h2 _ _ q⟩
  | _ => exact q⟩
end
end Hl

namespace Hl
open PySem PySem.Spec PyProof.Rows L2
section
variable {prog : Program} {w : World} {A : Around} {E : Value → Shared → Prop} {s : Shared}
theorem collect_tup {l : Addr} {vs : List Value} {Q : List Value → Shared → Prop} (hl : IsTup s.heap l vs.toArray)
    (h : Q vs { s with heap := (s.heap.push (seqObj "list" #[] 0)).update s.heap.objs.size (Obj.mapSeq (· ++ vs.toArray)) }) (hsz : vs.length ≤ sizeLine) :
    wpAny (model prog w) A (collect (.ref l)) Q E s := by
  obtain ⟨o, ho, hc, n, hd⟩ := id hl
  unfold collect
  refine wpAny_bind (wpAny_runValue (codeAny_builtin entry_proto_collect' ?_))
  show wpAny _ _ (do again (.builtin "list.__iadd__" ⟨[← newList [], .ref l], []⟩)) _ _ s
  refine wpAny_bind (wpAny_newList (wpAny_pure ⟨Code.quiet_builtin _ (by decide +kernel), codeAny_builtin entry_list_iadd' ?_⟩))
  show wpAny _ _ (Builtin.List.listExtendWith (.ref s.heap.objs.size) (.ref l) (.ref s.heap.objs.size)) _ _ { s with heap := s.heap.push (seqObj "list" #[] 0) }
  unfold Builtin.List.listExtendWith
  have ho' : (s.heap.push (seqObj "list" #[] 0)).get? l = some o := Heap.get?_push_of_some _ ho
  refine wpAny_bind (wpAny_typeOf (T := "tuple") ⟨o, ho', hc⟩ ?_)
  have ht : (Value.type "tuple" == Value.type "tuple") = true := by rfl
  rw [if_pos (by rw [ht]; simp)]
  refine wpAny_bind (listItems_at ho' hd ?_)
  refine wpAny_bind (listItems_at (xs := #[]) (n := 0) (Heap.get?_push_size _ rfl) rfl ?_)
  rw [if_neg (by simp)]
  refine wpAny_bind (listUpdate_at (xs := #[]) (n := 0) (Heap.get?_push_size _ rfl) rfl ?_ (Nat.zero_le _) (by show (#[] ++ vs.toArray).size ≤ sizeLine + 1; simp only [Array.size_append, List.size_toArray, List.length_nil]; omega))
  refine wpAny_pure ?_
  show wpAny (model prog w) A (do
      let o ← load s.heap.objs.size
      match o.data with
      | .seq xs _ => pure xs.toList
      | _ => unsupported "internal:collect") Q E { s with heap := (s.heap.push (seqObj "list" #[] 0)).update s.heap.objs.size (Obj.mapSeq (· ++ vs.toArray)) }
  refine wpAny_bind (wpAny_load (get?_update_seq (Heap.get?_push_size _ rfl) _) ?_)
  show wpAny _ _ (pure ((#[] : Array Value) ++ vs.toArray).toList) Q E _
  rw [show ((#[] : Array Value) ++ vs.toArray).toList = vs by simp]
  exact wpAny_pure h
open SrtO in
theorem sorted_ordT {l : Addr} {vs : List Value} {ltv : Value → Value → Bool} {Q : Value → Shared → Prop} (O : Swo ltv) (hl : IsTup s.heap l vs.toArray) (hz : vs.length ≤ sizeLine)
    (hS : 2 ≤ vs.length → ∀ (h₁ : Heap) (a : Addr), h₁.get? a = some (seqObj "list" vs.toArray 0) → (∀ b o, s.heap.get? b = some o → b ≠ a ∧ h₁.get? b = some o) → SortableO prog w A.in1.in1 { s with heap := h₁ } a vs ltv)
    (h : ∀ out : List Value, Srtd ltv out → Stb ltv out vs → Q (.ref (s.heap.objs.size + 1)) { s with heap := sortedAll s.heap vs out.toArray }) :
    wpAny (model prog w) A (call (.builtin "sorted") [.ref l]) Q E s := by
  refine Calls.call_function_entry kind_sorted plain_sorted entry_sorted (args_sorted1 _) ?_
  unfold Builtin.«sorted»
  refine wpAny_bind (m := checkCount "sorted" 1 1 _) (wpAny_pure ?_)
  refine wpAny_bind (collect_tup hl ?_ hz)
  refine wpAny_bind (wpAny_newList ?_ hz)
  have hsz : ((s.heap.push (seqObj "list" #[] 0)).update s.heap.objs.size (Obj.mapSeq (· ++ vs.toArray))).objs.size = s.heap.objs.size + 1 := by
    rw [Heap.size_update, size_push']
  have hoL : (((s.heap.push (seqObj "list" #[] 0)).update s.heap.objs.size (Obj.mapSeq (· ++ vs.toArray))).push (seqObj "list" vs.toArray 0)).get? (s.heap.objs.size + 1) = some (seqObj "list" vs.toArray 0) := by
    rw [← hsz]; exact Heap.get?_push_size _ rfl
  have keep : ∀ b o, s.heap.get? b = some o → b ≠ s.heap.objs.size + 1 ∧ (((s.heap.push (seqObj "list" #[] 0)).update s.heap.objs.size (Obj.mapSeq (· ++ vs.toArray))).push (seqObj "list" vs.toArray 0)).get? b = some o := fun b o q => by
    have hlt : b < s.heap.objs.size := Heap.lt_size q
    refine ⟨Nat.ne_of_lt (Nat.lt_succ_of_lt hlt), Heap.get?_push_of_some _ ?_⟩
    rw [Heap.get?_update_ne _ _ _ _ (Nat.ne_of_lt hlt)]
    exact Heap.get?_push_of_some _ q
  show wpAny _ _ _ _ _ { s with heap := ((s.heap.push (seqObj "list" #[] 0)).update s.heap.objs.size (Obj.mapSeq (· ++ vs.toArray))).push (seqObj "list" vs.toArray 0) }
  rw [hsz]
  refine wpAny_bind (wpAny_holding (wpAny_call_entry slot_list_sort ⟨_, hoL, rfl⟩ entry_list_sort (list_sort_ord O hoL hz (fun h2 => hS h2 _ _ hoL keep) fun out hs hb => ⟨_, rfl, ?_⟩) (args_list_sort _)))
  exact wpAny_pure ⟨_, rfl, h out hs hb⟩
end
/-- sorted(t), a tuple of ints -/
def rSortedTI (K : PySem.W.Frag) : List V → Hp → VK → Prop := fun vs H Q => ∃ (a : Addr) (ns : List Int), vs = [V.ref a] ∧ SqT K H a (ns.map V.int) ∧
  ∀ (ns' : List Int) (p : Addr), ns'.Perm ns → ns'.Pairwise (· ≤ ·) → H p = none → Q (.ref p) (upd H p (.lst (ns'.map V.int)))
theorem cr_sortedTI {X : Cx} : CallR X (.builtin "sorted") (rSortedTI X.K) := by
  intro pins s σ H vs us Q I r h
  obtain ⟨a, ns, rfl, hs, q⟩ := h
  obtain ⟨its, rv, hl, hz⟩ := I.tuple hs
  rw [Vals.ref1 r]
  have hi := rv.ints
  refine sorted_ordT SrtO.swo_int hl (by rw [← rv.length]; exact hz) (fun h2 h₁ a' _ _ => SrtO.ints_sortable hi h2) fun out h1 h2 => ?_
  obtain ⟨k1, k2, k3⟩ := SrtO.ints_out hi h1 h2
  obtain ⟨ep, he'⟩ := PyProof.Rows.sortedAll_at s.heap its out.toArray
  have hlen : ((out.map SrtO.iv).map V.int).length ≤ sizeLine := by
    rw [List.length_map, k2.length_eq]
    rw [List.length_map] at hz
    exact hz
  exact ⟨.ref _, upd H (s.heap.objs.size + 1) (.lst ((out.map SrtO.iv).map V.int)), I.laid (t' := s.toks) (fun _ _ => PyProof.Rows.sortedAll_old) (Nat.le_succ _) ⟨hlen, out, ep, vals_of_ints k1, he'⟩, rfl, q _ _ k2 k3 (I.hok.fresh (Nat.le_succ _))⟩
section
variable {P : Program} {w : World} {A : Around} {E : Value → Shared → Prop} {s : Shared}
set_option maxHeartbeats 3200000 in
theorem call_set_lstI {l : Addr} {items : Array Value} (ns : List Int) {Q : Value → Shared → Prop} (hh : A.handled = none) (hl : s.heap.IsList l items) (hit : IntsAre items.toList ns) (hb : ns.length + 1 < scanBound)
    (h : ∀ (h' : Heap) (tk c : Nat), SetR w h' s.heap.objs.size (fun j => decide (j ∈ ns)) c → c ≤ ns.length → (∀ b o, s.heap.get? b = some o → h'.get? b = some o) → Q (.ref s.heap.objs.size) { s with heap := h', toks := tk }) :
    wpAny (model P w) A (call (.type "set") [.ref l]) Q E s := by
  have hisz : items.size = ns.length := by
    have q := IntsAre.length hit
    rw [Array.length_toList] at q
    exact q
  obtain ⟨c, tl, hmro⟩ := F.called_set.mro
  have hmade := F.called_set.made
  have hsub := F.called_set.sub
  refine wpAny_call (codeAny_of_tree ?_)
  show wpAny _ _ (callAny (.type "set") _) _ _ _
  refine wpAny_pure ⟨Code.quiet_builtin _ (by decide +kernel), codeAny_builtin F.entry_type_call ?_⟩
  rw [Around.under_plain (weight_type_call_type "set" [.ref l] []) rfl]
  have h1 := F.called_set.notType
  have h2 := F.called_set.canCreate
  have hct := F.typeCall_set_1 (.ref l)
  repeat (any_goals (first | assumption | wp_step))

  refine codeAny_mono (code_set_led1 (.ref l) (E := E) (Q₁ := fun obj s₁ => obj = .ref s.heap.objs.size ∧ s₁ = { s with heap := s.heap.push { cls := .type "set", dict := none, data := .set #[] 0 (.fresh 0 0 (!w.params.followText "set-order")) } }) ⟨rfl, rfl⟩) fun r s₁ hr => ?_
  cases r with
  | error e => exact hr
  | ok fl =>
    cases fl with
    | ret obj =>
      obtain ⟨rfl, rfl⟩ := hr
      have hS : (s.heap.push { cls := .type "set", dict := none, data := .set #[] 0 (.fresh 0 0 (!w.params.followText "set-order")) }).get? s.heap.objs.size = some { cls := .type "set", dict := none, data := .set #[] 0 (.fresh 0 0 (!w.params.followText "set-order")) } := Heap.get?_push_size _ rfl
      have hT : Shared.TypeIs { s with heap := s.heap.push { cls := .type "set", dict := none, data := .set #[] 0 (.fresh 0 0 (!w.params.followText "set-order")) } } (.ref s.heap.objs.size) "set" := ⟨_, hS, rfl⟩
      have hli := F.called_set.init.lookup
      have hbi := F.called_set.init.bind (.ref s.heap.objs.size)
      repeat (any_goals (first | assumption | wp_step))

      refine codeAny_mono (codeAny_call_builtin (R := wants (fun r s₂ => r = .none ∧ ∃ h' tk c, s₂ = { s with heap := h', toks := tk } ∧ SetR w h' s.heap.objs.size (fun j => decide (j ∈ ns)) c ∧ c ≤ ns.length ∧
          (∀ b o, s.heap.get? b = some o → h'.get? b = some o)) E) F.called_set.init.plain F.entry_set_init (check_set_init_1 hT ?_)) fun r₂ s₂ hr₂ => ?_
      · obtain ⟨ol, hol, hcl, nl, hdl⟩ := hl
        obtain ⟨ocls, odict, odata, oslots⟩ := ol
        simp only at hcl hdl
        subst hcl; subst hdl
        have hol' : (s.heap.push { cls := .type "set", dict := none, data := .set #[] 0 (.fresh 0 0 (!w.params.followText "set-order")) }).get? l = some { cls := .type "list", dict := odict, data := .seq items nl, slots := oslots } := Heap.get?_push_of_some _ hol
        have hsls := F.sub_list_set
        have hslf := F.sub_list_frozenset
        have hne : (Value.type "list" == Value.type "dict") = false := by decide
        have hl1 : (s.heap.push { cls := .type "set", dict := none, data := .set #[] 0 (.fresh 0 0 (!w.params.followText "set-order")) }).IsList l items := ⟨_, hol', rfl, nl, rfl⟩
        unfold Builtin.«set.__init__» noKeywords Builtin.Frozenset.updateFrom
        generalize hPI : pyIter = PI
        wp_walk
        subst hPI

        refine wpAny_pyIter_list hl1 ?_
        refine wpAny_bind (wpAny_runValue ?_)
        have hlS : l < s.heap.objs.size := Heap.lt_size hol
        have hh3 : A.in1.in1.in1.handled = none := by simp [hh]
        have hz1 : (s.heap.push { cls := .type "set", dict := none, data := .set #[] 0 (.fresh 0 0 (!w.params.followText "set-order")) }).objs.size = s.heap.objs.size + 1 := Heap.size_push ..
        have hneI : l ≠ (s.heap.push { cls := .type "set", dict := none, data := .set #[] 0 (.fresh 0 0 (!w.params.followText "set-order")) }).objs.size := by
          rw [Heap.size_push]; exact Nat.ne_of_lt (Nat.lt_succ_of_lt hlS)
        have hSf : s.heap.objs.size ∉ [(s.heap.push { cls := .type "set", dict := none, data := .set #[] 0 (.fresh 0 0 (!w.params.followText "set-order")) }).objs.size, l] := by
          rw [Heap.size_push]; simp only [List.mem_cons, List.mem_singleton, List.not_mem_nil, or_false, not_or]
          exact ⟨Nat.ne_of_lt (Nat.lt_succ_self _), Nat.ne_of_gt hlS⟩
        have hval : ∀ (i : Nat) (v : Value), items[i]? = some v → ∃ k t, ns[i]? = some k ∧ v = .int k t := fun i v hv => by
          have hi : i < ns.length := by rw [← hisz]; exact (Array.getElem?_eq_some_iff.mp hv).1
          obtain ⟨t, e⟩ := PyProof.Rows.IntsAre.int_at hit i v (by rw [Array.getElem?_toList]; exact hv)
          refine ⟨ns[i], t, List.getElem?_eq_getElem hi, ?_⟩
          rw [e, List.getD_eq_getElem?_getD, List.getElem?_eq_getElem hi] <;> rfl
        refine set_update_ints ((Walks.list hh3 _ l hneI items).toS) s.heap.objs.size
          hSf ns hisz hb hval (items.size - 0) 0 _ (by omega) (Nat.zero_le _)
          ⟨⟨_, Heap.get?_push_size _ rfl, rfl, rfl⟩, (hl1.push _)⟩ ?hS0 ?hR
        case hS0 =>
          have hget : ((s.heap.push { cls := .type "set", dict := none, data := .set #[] 0 (.fresh 0 0 (!w.params.followText "set-order")) }).push { cls := .type "list_iterator", data := .fields #[.ref l, .int 0 0] }).get? s.heap.objs.size
              = some { cls := .type "set", dict := none, data := .set #[] 0 (.fresh 0 0 (!w.params.followText "set-order")) } := Heap.get?_push_of_some _ hS
          exact ⟨0, Nat.le_refl 0, setR_new_at hget⟩
        case hR =>
          intro s' c' hm hc' hS'
          obtain ⟨h', g2, d', tk', os'⟩ := s'
          have eg : g2 = s.gens := hm.gens
          have ed : d' = s.drawn := hm.drawn
          have eo : os' = s.os := hm.os
          subst eg; subst ed; subst eo
          show wpAny _ _ _ _ _ _
          refine wpAny_pure ?_
          show wpAny _ _ (ret Value.none) _ _ _
          rw [hisz] at hc'
          refine wpAny_pure ⟨rfl, h', tk', c', rfl, hS', hc', fun b o e => ?_⟩
          have hb0 : b < s.heap.objs.size := Heap.lt_size e
          have hb1 : b ≠ s.heap.objs.size := Nat.ne_of_lt hb0
          have hb2 : b ≠ (s.heap.push { cls := .type "set", dict := none, data := .set #[] 0 (.fresh 0 0 (!w.params.followText "set-order")) }).objs.size := by
            rw [Heap.size_push]; exact Nat.ne_of_lt (Nat.lt_succ_of_lt hb0)
          exact hm.heap b o (by simp only [List.mem_cons, List.mem_singleton, List.not_mem_nil, or_false, not_or]; exact ⟨hb1, hb2⟩) (Heap.get?_push_of_some _ (Heap.get?_push_of_some _ e))

      · cases r₂ with
        | error e => exact hr₂
        | ok fl₂ =>
          cases fl₂ with
          | ret r =>
            obtain ⟨rfl, h', tk, c', rfl, hS', hc', hk'⟩ := hr₂
            repeat (any_goals (first | assumption | wp_step))
            exact h _ _ _ hS' hc' hk'
          | _ => exact hr₂.elim
    | _ => exact hr.elim
end
/-- set(t), set(l) of ints -/
def rSetI (K : PySem.W.Frag) (w : World) : List V → Hp → VK → Prop := fun vs H Q => ∃ (a : Addr) (ns : List Int), vs = [V.ref a] ∧ (SqT K H a (ns.map V.int) ∨ SqL K H a (ns.map V.int)) ∧ ns.length ≤ 1000 ∧
  ∀ (p : Addr) (c : Nat), H p = none → c ≤ ns.length → Q (.ref p) (upd H p (SetO w p (fun j => decide (j ∈ ns)) c))
theorem cr_setTI {X : Cx} (hc : X.calm = true) : CallR X (.type "set") (rSetI X.K X.w) := by
  intro pins s σ H vs us Q I r h
  obtain ⟨a, ns, rfl, hs, hn, q⟩ := h
  rw [Vals.ref1 r]
  have hf := I.hok.fresh (Nat.le_refl _)
  rcases hs with hs | hs
  · obtain ⟨its, rv, hl, hz⟩ := I.tuple hs
    refine call_set_tupI ns (I.ok.hd hc) (show s.heap.IsTuple a its.toArray from hl) (ints_of_vals rv) (by unfold scanBound; omega) fun h' tk c R hcn k => ?_
    exact ⟨.ref _, upd H s.heap.objs.size (SetO X.w s.heap.objs.size (fun j => decide (j ∈ ns)) c), I.laid (t' := tk) k (Nat.le_refl _) (setO_new R), rfl, q _ c hf hcn⟩
  · obtain ⟨its, rv, hl, hz⟩ := I.list hs
    refine call_set_lstI ns (I.ok.hd hc) hl.isList (ints_of_vals rv) (by unfold scanBound; omega) fun h' tk c R hcn k => ?_
    exact ⟨.ref _, upd H s.heap.objs.size (SetO X.w s.heap.objs.size (fun j => decide (j ∈ ns)) c), I.laid (t' := tk) k (Nat.le_refl _) (setO_new R), rfl, q _ c hf hcn⟩
end Hl

namespace Hl
open PySem PySem.Spec PyProof.Rows L2
/-- the first i lists, one behind the other -/
def preL (lst : Nat → List Value) : Nat → List Value
  | 0 => []
  | i + 1 => preL lst i ++ lst i
theorem preL_mono (lst : Nat → List Value) : ∀ {i n : Nat}, i ≤ n → (preL lst i).length ≤ (preL lst n).length
  | i, 0, h => by rw [Nat.le_zero.mp h] <;> exact Nat.le_refl _
  | i, n + 1, h => by
    rcases Nat.lt_or_eq_of_le h with h | h
    · exact Nat.le_trans (preL_mono lst (Nat.le_of_lt_succ h)) (by show _ ≤ (preL lst n ++ lst n).length; rw [List.length_append]; omega)
    · rw [h] <;> exact Nat.le_refl _
section
variable {prog : Program} {w : World} {A : Around} {R : Result → Shared → Prop} {I ax S : Addr} {items : Array Value}
theorem sum_loop_lists (hh : A.in1.handled = none) (hne : ax ≠ I) (hSI : S ≠ I) (hSa : S ≠ ax) (lst : Nat → List Value) (h0 : Heap) (hbd : (preL lst items.size).length ≤ sizeLine)
    (hv : ∀ i v, items[i]? = some v → ∃ b nb, v = .ref b ∧ b ≠ S ∧ b ≠ I ∧ IsL h0 b (lst i).toArray nb) :
    ∀ (k i : Nat) (s : Shared) (acc : Addr) (na c : Nat), items.size - i = k → i ≤ items.size → s.heap.IsListIter I ax i → s.heap.IsList ax items → s.heap.get? S = some { cls := .type "list", dict := none, data := .seq #[.ref acc] c, slots := #[] } →
      IsL s.heap acc (preL lst i).toArray na → acc ≠ S → acc ≠ I → (∀ b o, b ≠ S → b ≠ I → h0.get? b = some o → s.heap.get? b = some o) →
      (∀ h' acc' na' tk, (∀ b o, b ≠ S → b ≠ I → s.heap.get? b = some o → h'.get? b = some o) → IsL h' acc' (preL lst items.size).toArray na' → acc' ≠ S → acc' ≠ I → (i < items.size → I < acc') → (i = items.size → acc' = acc) → R (.ok (.ret (.ref acc'))) { s with heap := h', toks := tk }) →
      codeAny (model prog w) A (.builtin "sum.loop" ⟨[.ref I, .ref S, rawInt 2, rawInt 0], []⟩) R s := by
  intro k
  have W := Walks.list (prog := prog) (w := w) hh I ax hne items
  induction k with
  | zero =>
    intro i s acc na c hk hi hit hl hS ha h1 h2 hkp hR
    have hin : i = items.size := by omega
    subst hin
    refine codeAny_builtin F.entry_sum_loop ?_
    rw [Around.under_plainId F.plain_sum_loop _]
    show wpAny _ A.in1 (seqItems? (.ref S) >>= _) _ _ s
    refine wpAny_bind (wpAny_seqItems hS rfl ?_)
    show wpAny _ A.in1 (tryCatch (pyNext (.ref I)) _ >>= _) _ _ s
    refine wpAny_bind (wpAny_tryCatch (W.done s _ _ ⟨hit, hl⟩ fun h' tk hm => ?_))
    refine wpAny_pure (hR h' acc na tk (fun b o _ hbI e => hm b o (by simp [hbI]) e) ?_ h1 h2 (fun z => absurd z (Nat.lt_irrefl _)) fun _ => rfl)
    exact hm _ _ (by simp [h2]) ha
  | succ k ih =>
    intro i s acc na c hk hi hit hl hS ha h1 h2 hkp hR
    have hlt : i < items.size := by omega
    refine codeAny_builtin F.entry_sum_loop ?_
    rw [Around.under_plainId F.plain_sum_loop _]
    show wpAny _ A.in1 (seqItems? (.ref S) >>= _) _ _ s
    refine wpAny_bind (wpAny_seqItems hS rfl ?_)
    show wpAny _ A.in1 (tryCatch (pyNext (.ref I)) _ >>= _) _ _ s
    refine wpAny_bind (wpAny_tryCatch (W.item i s _ _ hlt ⟨hit, hl⟩ fun v h' tk hP hst' hm => ?_))
    obtain ⟨b, nb, rfl, hbS, hbI, hb⟩ := hv i v hP
    have hS' := hm S _ (by simp [hSI]) hS
    have ha' := hm acc _ (by simp [h2]) ha
    have hb' := hm b _ (by simp [hbI]) (hkp b _ hbS hbI hb)
    show wpAny _ A.in1 ((holding [Value.ref b] (binaryOp .Add (.ref acc) (.ref b))).attempt >>= _) _ _ _
    have hpre : (preL lst i).toArray.size + (lst i).toArray.size ≤ sizeLine := by
      have := preL_mono lst (i := i + 1) (n := items.size) (by omega)
      rw [show preL lst (i + 1) = preL lst i ++ lst i from rfl, List.length_append] at this
      rw [List.size_toArray, List.size_toArray]
      omega
    refine wpAny_bind (wpAny_attempt (wpAny_holding (PySem.P.add_list ha' hb' ?_ hpre)))
    show wpAny _ A.in1 (updateSeq S (fun _ => #[.ref h'.objs.size]) >>= _) _ _ _
    have hS'' : (h'.push ({ cls := .type "list", data := .seq ((preL lst i).toArray ++ (lst i).toArray) } : Obj)).get? S = some { cls := .type "list", dict := none, data := .seq #[.ref acc] c, slots := #[] } := Heap.get?_push_of_some _ hS'
    refine wpAny_bind (wpAny_updateSeq hS'' rfl ?_)
    have hS₂ := Heap.get?_update_self (Obj.mapSeq fun _ => #[Value.ref h'.objs.size]) hS'' rfl
    have lt : ∀ b o, h'.get? b = some o → b < h'.objs.size := fun b o e => Heap.lt_size e
    have keep : ∀ b o, b ≠ S → h'.get? b = some o → (((h'.push ({ cls := .type "list", data := .seq ((preL lst i).toArray ++ (lst i).toArray) } : Obj)).update S (Obj.mapSeq fun _ => #[Value.ref h'.objs.size])).update S (Obj.mapSeq fun _ => #[Value.ref h'.objs.size])).get? b = some o := fun b o hb e => by
      rw [Heap.get?_update_ne _ _ _ _ hb, Heap.get?_update_ne _ _ _ _ hb]
      exact Heap.get?_push_of_some _ e
    refine wpAny_bind (wpAny_letGo ?_)
    have hsn : h'.objs.size ≠ S := fun z => Nat.lt_irrefl _ (z ▸ lt _ _ hS')
    have hsI : h'.objs.size ≠ I := by
      obtain ⟨oI, hoI, _⟩ := hst'.1
      exact fun z => Nat.lt_irrefl _ (z ▸ lt _ _ hoI)
    have hnew : (((h'.push ({ cls := .type "list", data := .seq ((preL lst i).toArray ++ (lst i).toArray) } : Obj)).update S (Obj.mapSeq fun _ => #[Value.ref h'.objs.size])).update S (Obj.mapSeq fun _ => #[Value.ref h'.objs.size])).get? h'.objs.size = some { cls := .type "list", data := .seq ((preL lst i).toArray ++ (lst i).toArray) } := by
      rw [Heap.get?_update_ne _ _ _ _ hsn, Heap.get?_update_ne _ _ _ _ hsn]
      exact Heap.get?_push_size _ rfl
    have epre : (preL lst (i + 1)).toArray = (preL lst i).toArray ++ (lst i).toArray := by
      show (preL lst i ++ lst i).toArray = _
      simp
    refine wpAny_bind (wpAny_updateSeq hS₂ rfl (wpAny_pure ⟨plainId_quiet F.plain_sum_loop _, ih (i + 1) _ h'.objs.size 0 _ (by omega) hlt (hst'.1.at fun o e => keep _ _ (Ne.symm hSI) e) (hst'.2.at fun o e => keep _ _ (Ne.symm hSa) e) (Heap.get?_update_self _ hS₂ rfl) (by rw [epre]; exact hnew) hsn hsI
      (fun b o hbS hbI e => keep b o hbS (hm b o (by simp [hbI]) (hkp b o hbS hbI e))) fun h'' acc' na' tk' hk'' hI'' n1 n2 f1 f2 => ?_⟩))
    refine hR h'' acc' na' tk' (fun b o hbS hbI e => hk'' b o hbS hbI (keep b o hbS (hm b o (by simp [hbI]) e))) hI'' n1 n2 (fun _ => ?_) (fun z => absurd z (Nat.ne_of_lt hlt))
    rcases Nat.lt_or_eq_of_le (show i + 1 ≤ items.size from hlt) with z | z
    · exact f1 z
    · rw [f2 z]
      obtain ⟨oI, hoI, _⟩ := hst'.1
      exact lt _ _ hoI
end
theorem args_sum2 (a b : Value) : argsOk "sum" ⟨[a, b], []⟩ := by unfold argsOk; kernel_rfl
theorem sub_list_str : isSubtype (.type "list") (.type "str") = pure false := by rw [isSubtype_type]; kernel_rfl
theorem sub_list_bytes : isSubtype (.type "list") (.type "bytes") = pure false := by rw [isSubtype_type]; kernel_rfl
theorem sub_list_bytearray : isSubtype (.type "list") (.type "bytearray") = pure false := by rw [isSubtype_type]; kernel_rfl
section
variable {prog : Program} {w : World} {A : Around} {E : Value → Shared → Prop} {s : Shared} {l e : Addr} {items : Array Value}
/-- sum(lists, []) -/
theorem call_sum_lists {Q : Value → Shared → Prop} (hh : A.handled = none) (hl : s.heap.IsList l items) {ne : Nat} (he : IsL s.heap e #[] ne) (lst : Nat → List Value) (hbd : (preL lst items.size).length ≤ sizeLine)
    (hv : ∀ i v, items[i]? = some v → ∃ b nb, v = .ref b ∧ IsL s.heap b (lst i).toArray nb)
    (h : ∀ h' acc na tk, (∀ b o, s.heap.get? b = some o → h'.get? b = some o) → IsL h' acc (preL lst items.size).toArray na → (0 < items.size → s.heap.objs.size < acc) → Q (.ref acc) { s with heap := h', toks := tk }) :
    wpAny (model prog w) A (call (.builtin "sum") [.ref l, .ref e]) Q E s := by
  refine call_function_tree F.kind_sum F.plain_sum F.entry_sum (args_sum2 _ _) ?_
  unfold Builtin.«sum»
  simp only [List.length_cons, List.length_nil]
  rw [if_neg (by decide)]
  refine wpAny_bind (wpAny_of_eq (show Builtin.Builtins.bindParams "sum" ["start"] 0 { pos := [.ref e], kw := [] } = pure [some (.ref e)] from rfl) ?_)
  refine wpAny_bind (wpAny_pyIter_list hl ?_)
  obtain ⟨ol, hol, hcl⟩ := id hl
  have hlt : l < s.heap.objs.size := Heap.lt_size hol
  have hel : e < s.heap.objs.size := Heap.lt_size he
  have kp1 : ∀ b o, s.heap.get? b = some o → (s.heap.push ({ cls := .type "list_iterator", data := .fields #[.ref l, .int 0 0] } : Obj)).get? b = some o := fun b o q => Heap.get?_push_of_some _ q
  have te : Shared.TypeIs { s with heap := s.heap.push ({ cls := .type "list_iterator", data := .fields #[.ref l, .int 0 0] } : Obj) } (.ref e) "list" := ⟨_, kp1 _ _ he, rfl⟩
  refine wpAny_bind (wpAny_pure ?_)
  simp only [List.forIn_cons, List.forIn_nil]
  refine wpAny_bind (wpAny_bind (wpAny_bind (wpAny_isInstance (T := "list") (b := false) te sub_list_str ?_)))
  simp only [Bool.false_eq_true, if_false]
  refine wpAny_pure (wpAny_bind (wpAny_bind (wpAny_isInstance (T := "list") (b := false) te sub_list_bytes ?_)))
  simp only [Bool.false_eq_true, if_false]
  refine wpAny_pure (wpAny_bind (wpAny_bind (wpAny_isInstance (T := "list") (b := false) te sub_list_bytearray ?_)))
  simp only [Bool.false_eq_true, if_false]
  refine wpAny_pure (wpAny_pure ?_)
  refine wpAny_bind (wpAny_newObj_type ?_)
  have hz1 : (s.heap.push ({ cls := .type "list_iterator", data := .fields #[.ref l, .int 0 0] } : Obj)).objs.size = s.heap.objs.size + 1 := Heap.size_push ..
  have kp2 : ∀ b o, s.heap.get? b = some o → ((s.heap.push ({ cls := .type "list_iterator", data := .fields #[.ref l, .int 0 0] } : Obj)).push ({ cls := .type "list", data := .seq #[.ref e] } : Obj)).get? b = some o := fun b o q => Heap.get?_push_of_some _ (kp1 b o q)
  have hit : ((s.heap.push ({ cls := .type "list_iterator", data := .fields #[.ref l, .int 0 0] } : Obj)).push ({ cls := .type "list", data := .seq #[.ref e] } : Obj)).IsListIter s.heap.objs.size l 0 := ⟨_, Heap.get?_push_of_some _ (Heap.get?_push_size _ rfl), rfl, rfl⟩
  have hneI : l ≠ s.heap.objs.size := Nat.ne_of_lt hlt
  refine wpAny_pure ⟨plainId_quiet F.plain_sum_loop _, sum_loop_lists (by simp [hh]) hneI (S := (s.heap.push ({ cls := .type "list_iterator", data := .fields #[.ref l, .int 0 0] } : Obj)).objs.size) (by rw [hz1]; exact Nat.succ_ne_self _) (by rw [hz1]; exact Nat.ne_of_gt (Nat.lt_succ_of_lt hlt)) lst s.heap hbd
    (fun i v hi => ?_) items.size 0 _ e ne 0 (by omega) (Nat.zero_le _) hit (hl.at fun o q => kp2 _ _ q) (Heap.get?_push_size _ rfl) (kp2 _ _ he) (by rw [hz1]; exact Nat.ne_of_lt (Nat.lt_succ_of_lt hel)) (Nat.ne_of_lt hel) (fun b o _ _ q => kp2 b o q) fun h' acc' na' tk hk hI' n1 n2 f1 _ => ?_⟩
  · obtain ⟨b, nb, e1, hb⟩ := hv i v hi
    have hbl : b < s.heap.objs.size := Heap.lt_size hb
    exact ⟨b, nb, e1, by rw [hz1]; exact Nat.ne_of_lt (Nat.lt_succ_of_lt hbl), Nat.ne_of_lt hbl, hb⟩
  · refine h h' acc' na' tk (fun b o q => hk b o ?_ ?_ (kp2 b o q)) hI' fun z => ?_
    · rw [hz1]; exact Nat.ne_of_lt (Nat.lt_succ_of_lt (Heap.lt_size q))
    · exact Nat.ne_of_lt (Heap.lt_size q)
    · exact f1 z
end
end Hl

namespace Vl
open PySem PySem.Spec PyProof.Rows L2 Hl

/-! ### values told without addresses -/
inductive D where
  | non
  | bl (b : Bool)
  | int (i : Int)
  | str (z : Str)
  | tup (l : List D)
  | lst (l : List D)
  | obj (c : Str) (fs : List (Str × D))
  | hnd
  | scr (ns : List Int)
  | dct (kvs : List (Key × D))
  | set (ns : List Int)
/-- what stands fixed: the text, what a source of draws is -/
structure Gx where
  K : PySem.W.Frag
  w : World
  mg : Str → Option Value
  DA : Hp → Addr → Prop
  mono : ∀ {H H' : Hp} {a : Addr}, Same H H' → DA H a → DA H' a
/-- a heap in four: the outer part, the shared, the draws', the whole -/
structure Wo where
  F : Hp
  H0 : Hp
  Hd : Hp
  H : Hp
  P : Addr → Prop
structure Wo.Ok (T : Wo) : Prop where
  sF : Same T.F T.H
  s0 : Same T.H0 T.H
  sd : Same T.Hd T.H
  F0 : ∀ {b x}, T.F b = some x → T.H0 b = none
  Fd : ∀ {b x}, T.F b = some x → T.Hd b = none
  zd : ∀ {b x}, T.H0 b = some x → T.Hd b = none
mutual
inductive R (Γ : Gx) (H0 Hd : Hp) : V → D → Prop
  | non : R Γ H0 Hd .non .non
  | bl (b : Bool) : R Γ H0 Hd (.bl b) (.bl b)
  | int (i : Int) : R Γ H0 Hd (.int i) (.int i)
  | str (z : Str) : R Γ H0 Hd (.str z) (.str z)
  | tup {a : Addr} {vs : List V} {l : List D} : SqT Γ.K H0 a vs → RA Γ H0 Hd vs l → R Γ H0 Hd (.ref a) (.tup l)
  | lst {a : Addr} {vs : List V} {l : List D} : H0 a = some (.lst vs) → RA Γ H0 Hd vs l → R Γ H0 Hd (.ref a) (.lst l)
  | obj {a C dx : Addr} {vf : List (Str × V)} {c : Str} {df : List (Str × D)} : H0 a = some (.ins C dx vf) → Γ.mg c = some (.ref C) → Cls Γ.K C → (∀ f v, vf.lookup f = some v → NoAttr Γ.K C f) → RF Γ H0 Hd vf df → R Γ H0 Hd (.ref a) (.obj c df)
  | hnd {a : Addr} : Γ.DA Hd a → R Γ H0 Hd (.ref a) .hnd
  | scr {a : Addr} {ns : List Int} : SqL Γ.K H0 a (ns.map V.int) → R Γ H0 Hd (.ref a) (.scr ns)
  | dct {a : Addr} {vk : List (Key × V)} {dk : List (Key × D)} : H0 a = some (.dK vk) → RK Γ H0 Hd vk dk → R Γ H0 Hd (.ref a) (.dct dk)
  | set {a : Addr} {ns : List Int} {c : Nat} : H0 a = some (SetO Γ.w a (fun j => decide (j ∈ ns)) c) → R Γ H0 Hd (.ref a) (.set ns)
inductive RA (Γ : Gx) (H0 Hd : Hp) : List V → List D → Prop
  | nil : RA Γ H0 Hd [] []
  | cons {v : V} {d : D} {vs : List V} {l : List D} : R Γ H0 Hd v d → RA Γ H0 Hd vs l → RA Γ H0 Hd (v :: vs) (d :: l)
inductive RF (Γ : Gx) (H0 Hd : Hp) : List (Str × V) → List (Str × D) → Prop
  | nil : RF Γ H0 Hd [] []
  | cons {f : Str} {v : V} {d : D} {vs : List (Str × V)} {l : List (Str × D)} : R Γ H0 Hd v d → RF Γ H0 Hd vs l → RF Γ H0 Hd ((f, v) :: vs) ((f, d) :: l)
inductive RK (Γ : Gx) (H0 Hd : Hp) : List (Key × V) → List (Key × D) → Prop
  | nil : RK Γ H0 Hd [] []
  | cons {k : Key} {v : V} {d : D} {vs : List (Key × V)} {l : List (Key × D)} : R Γ H0 Hd v d → RK Γ H0 Hd vs l → RK Γ H0 Hd ((k, v) :: vs) ((k, d) :: l)
end
structure Ext (Γ : Gx) (T T' : Wo) : Prop where
  f : T'.F = T.F
  p : T'.P = T.P
  s0 : Same T.H0 T'.H0
  da : ∀ a, Γ.DA T.Hd a → Γ.DA T'.Hd a
section
variable {Γ : Gx} {T T' T'' : Wo}
theorem Ext.refl : Ext Γ T T := ⟨rfl, rfl, Same.refl _, fun _ h => h⟩
theorem Ext.trans (a : Ext Γ T T') (b : Ext Γ T' T'') : Ext Γ T T'' := ⟨b.f.trans a.f, b.p.trans a.p, a.s0.trans b.s0, fun x h => b.da x (a.da x h)⟩
variable {H0 Hd H0' Hd' : Hp}
mutual
theorem R.mono (e : Same H0 H0') (k : ∀ a, Γ.DA Hd a → Γ.DA Hd' a) : ∀ {v : V} {d : D}, R Γ H0 Hd v d → R Γ H0' Hd' v d
  | _, _, .non => .non
  | _, _, .bl b => .bl b
  | _, _, .int i => .int i
  | _, _, .str z => .str z
  | _, _, .tup h a => .tup (seqT e h) (RA.mono e k a)
  | _, _, .lst h a => .lst (e _ _ h) (RA.mono e k a)
  | _, _, .obj h m c n a => .obj (e _ _ h) m c n (RF.mono e k a)
  | _, _, .hnd h => .hnd (k _ h)
  | _, _, .scr h => .scr (e.seq h)
  | _, _, .dct h a => .dct (e _ _ h) (RK.mono e k a)
  | _, _, .set h => .set (e _ _ h)
theorem RA.mono (e : Same H0 H0') (k : ∀ a, Γ.DA Hd a → Γ.DA Hd' a) : ∀ {vs : List V} {l : List D}, RA Γ H0 Hd vs l → RA Γ H0' Hd' vs l
  | _, _, .nil => .nil
  | _, _, .cons h t => .cons (R.mono e k h) (RA.mono e k t)
theorem RF.mono (e : Same H0 H0') (k : ∀ a, Γ.DA Hd a → Γ.DA Hd' a) : ∀ {vs : List (Str × V)} {l : List (Str × D)}, RF Γ H0 Hd vs l → RF Γ H0' Hd' vs l
  | _, _, .nil => .nil
  | _, _, .cons h t => .cons (R.mono e k h) (RF.mono e k t)
theorem RK.mono (e : Same H0 H0') (k : ∀ a, Γ.DA Hd a → Γ.DA Hd' a) : ∀ {vs : List (Key × V)} {l : List (Key × D)}, RK Γ H0 Hd vs l → RK Γ H0' Hd' vs l
  | _, _, .nil => .nil
  | _, _, .cons h t => .cons (R.mono e k h) (RK.mono e k t)
end
theorem R.ext {v : V} {d : D} (e : Ext Γ T T') (h : R Γ T.H0 T.Hd v d) : R Γ T'.H0 T'.Hd v d := h.mono e.s0 e.da
theorem RA.ext {v : List V} {d : List D} (e : Ext Γ T T') (h : RA Γ T.H0 T.Hd v d) : RA Γ T'.H0 T'.Hd v d := h.mono e.s0 e.da
theorem RA.len : ∀ {vs : List V} {l : List D}, RA Γ H0 Hd vs l → vs.length = l.length
  | _, _, .nil => rfl
  | _, _, .cons _ t => by rw [List.length_cons, List.length_cons, t.len]
theorem RA.get : ∀ {vs : List V} {l : List D} {i : Nat} {d : D}, RA Γ H0 Hd vs l → l[i]? = some d → ∃ v, vs[i]? = some v ∧ R Γ H0 Hd v d
  | _, _, _, _, .nil, h => by simp at h
  | _, _, 0, _, .cons h _, e => by simp at e; subst e; exact ⟨_, rfl, h⟩
  | _, _, i + 1, d, .cons _ t, e => by
    obtain ⟨v, h1, h2⟩ := RA.get (i := i) (d := d) t (by simpa using e)
    exact ⟨v, by simpa using h1, h2⟩
theorem RA.get' : ∀ {vs : List V} {l : List D} {i : Nat} {v : V}, RA Γ H0 Hd vs l → vs[i]? = some v → ∃ d, l[i]? = some d ∧ R Γ H0 Hd v d
  | _, _, _, _, .nil, h => by simp at h
  | _, _, 0, _, .cons h _, e => by simp at e; subst e; exact ⟨_, rfl, h⟩
  | _, _, i + 1, v, .cons _ t, e => by
    obtain ⟨d, h1, h2⟩ := RA.get' (i := i) (v := v) t (by simpa using e)
    exact ⟨d, by simpa using h1, h2⟩
theorem RA.app : ∀ {vs ws : List V} {l m : List D}, RA Γ H0 Hd vs l → RA Γ H0 Hd ws m → RA Γ H0 Hd (vs ++ ws) (l ++ m)
  | _, _, _, _, .nil, h => h
  | _, _, _, _, .cons h t, u => .cons h (t.app u)
theorem RA.set : ∀ {vs : List V} {l : List D} {v : V} {d : D} (i : Nat), RA Γ H0 Hd vs l → R Γ H0 Hd v d → RA Γ H0 Hd (vs.set i v) (l.set i d)
  | _, _, _, _, _, .nil, _ => .nil
  | _, _, _, _, 0, .cons _ t, h => .cons h t
  | _, _, _, _, i + 1, .cons h' t, h => .cons h' (t.set i h)
theorem RA.drop : ∀ {vs : List V} {l : List D} (i : Nat), RA Γ H0 Hd vs l → RA Γ H0 Hd (vs.drop i) (l.drop i)
  | _, _, 0, h => by simpa using h
  | _, _, _ + 1, .nil => by simp; exact .nil
  | _, _, i + 1, .cons _ t => by simpa using t.drop i
theorem RA.take : ∀ {vs : List V} {l : List D} (i : Nat), RA Γ H0 Hd vs l → RA Γ H0 Hd (vs.take i) (l.take i)
  | _, _, 0, _ => by simp; exact .nil
  | _, _, _ + 1, .nil => by simp; exact .nil
  | _, _, i + 1, .cons h t => by simp only [List.take_succ_cons]; exact .cons h (t.take i)
theorem RA.reverse {vs : List V} {l : List D} (h : RA Γ H0 Hd vs l) : RA Γ H0 Hd vs.reverse l.reverse := by
  induction vs generalizing l with
  | nil => cases h; exact .nil
  | cons v vs ih =>
    cases h with
    | cons h t => simp only [List.reverse_cons]; exact (ih t).app (.cons h .nil)
theorem RA.eraseIdx : ∀ {vs : List V} {l : List D} (i : Nat), RA Γ H0 Hd vs l → RA Γ H0 Hd (vs.eraseIdx i) (l.eraseIdx i)
  | _, _, _, .nil => .nil
  | _, _, 0, .cons _ t => t
  | _, _, i + 1, .cons h t => .cons h (t.eraseIdx i)
theorem RF.lookup : ∀ {vs : List (Str × V)} {l : List (Str × D)} {f : Str} {d : D}, RF Γ H0 Hd vs l → l.lookup f = some d → ∃ v, vs.lookup f = some v ∧ R Γ H0 Hd v d
  | _, _, _, _, .nil, h => by simp at h
  | _, _, f, d, .cons (f := g) h t, e => by
    simp only [List.lookup] at e ⊢
    cases hfg : f == g with
    | true => rw [hfg] at e; cases e; exact ⟨_, rfl, h⟩
    | false => rw [hfg] at e; exact t.lookup e
end

/-! ### slots -/
inductive Cell where
  | no
  | val (d : D)
  | own (l : List D)
  | pin (p : Addr) (l : List D)
  | obj (p : Addr) (c : Str) (fs : List (Str × D))
  | dic (kvs : List (Key × D))
/-- one's own, it may be changed -/
def Cell.priv : Cell → Bool
  | .own _ => true
  | .obj _ _ _ => true
  | .dic _ => true
  | .pin _ _ => true
  | _ => false
abbrev Vn := List Cell
def CellR (Γ : Gx) (T : Wo) (s : Option V) : Cell → Prop
  | .no => True
  | .val d => ∃ v, s = some v ∧ R Γ T.H0 T.Hd v d
  | .own l => ∃ p vs, s = some (.ref p) ∧ T.H p = some (.lst vs) ∧ RA Γ T.H0 T.Hd vs l ∧ T.F p = none ∧ T.H0 p = none ∧ T.Hd p = none
  | .pin p l => ∃ vs, s = some (.ref p) ∧ T.P p ∧ T.F p = some (.lst vs) ∧ RA Γ T.H0 T.Hd vs l
  | .obj p c fs => ∃ C dx vf, s = some (.ref p) ∧ T.H p = some (.ins C dx vf) ∧ Γ.mg c = some (.ref C) ∧ Cls Γ.K C ∧ (∀ f v, vf.lookup f = some v → NoAttr Γ.K C f) ∧ RF Γ T.H0 T.Hd vf fs ∧ T.F p = none ∧ T.H0 p = none ∧ T.Hd p = none
  | .dic l => ∃ p vs, s = some (.ref p) ∧ T.H p = some (.dK vs) ∧ RK Γ T.H0 T.Hd vs l ∧ T.F p = none ∧ T.H0 p = none ∧ T.Hd p = none
structure Sv (Γ : Gx) (T : Wo) (σ : L2.St) (ρ : Vn) : Prop where
  ok : T.Ok
  len : σ.length = ρ.length
  cell : ∀ (i : Nat) (c : Cell), ρ[i]? = some c → ∃ s, σ[i]? = some s ∧ CellR Γ T s c
  dist : ∀ (i j : Nat) (p : Addr) (c c' : Cell), ρ[i]? = some c → ρ[j]? = some c' → c.priv = true → c'.priv = true → σ[i]? = some (some (.ref p)) → σ[j]? = some (some (.ref p)) → i = j
/-- the heap grows -/
structure Gr (T T' : Wo) : Prop where
  ok : T'.Ok
  f : T'.F = T.F
  p : T'.P = T.P
  d : T'.Hd = T.Hd
  s : Same T.H T'.H
  s0 : Same T.H0 T'.H0
  ns : ∀ {b x}, T.H b = some x → T.H0 b = none → T'.H0 b = none
section
variable {Γ : Gx} {T T' T'' : Wo} {σ : L2.St} {ρ : Vn}
theorem Gr.refl (h : T.Ok) : Gr T T := ⟨h, rfl, rfl, rfl, Same.refl _, Same.refl _, fun _ h => h⟩
theorem Gr.ext (g : Gr T T') : Ext Γ T T' := ⟨g.f, g.p, g.s0, fun a h => by rw [g.d]; exact h⟩
theorem Gr.trans (a : Gr T T') (b : Gr T' T'') : Gr T T'' := ⟨b.ok, b.f.trans a.f, b.p.trans a.p, b.d.trans a.d, a.s.trans b.s, a.s0.trans b.s0, fun h1 h2 => b.ns (a.s _ _ h1) (a.ns h1 h2)⟩
theorem Sv.grow (h : Sv Γ T σ ρ) (g : Gr T T') : Sv Γ T' σ ρ := by
  refine ⟨g.ok, h.len, fun i c e => ?_, h.dist⟩
  obtain ⟨s, e1, r⟩ := h.cell i c e
  refine ⟨s, e1, ?_⟩
  cases c with
  | no => trivial
  | val d => obtain ⟨v, e2, r⟩ := r; exact ⟨v, e2, r.ext g.ext⟩
  | own l =>
    obtain ⟨p, vs, e2, e3, r, n1, n2, n3⟩ := r
    exact ⟨p, vs, e2, g.s _ _ e3, r.ext g.ext, by rw [g.f]; exact n1, g.ns e3 n2, by rw [g.d]; exact n3⟩
  | pin p l =>
    obtain ⟨vs, e2, e0, e3, r⟩ := r
    exact ⟨vs, e2, by rw [g.p]; exact e0, by rw [g.f]; exact e3, r.ext g.ext⟩
  | obj p c fs =>
    obtain ⟨C, dx, vf, e2, e3, m, cl, na, r, n1, n2, n3⟩ := r
    exact ⟨C, dx, vf, e2, g.s _ _ e3, m, cl, na, r.mono g.s0 g.ext.da, by rw [g.f]; exact n1, g.ns e3 n2, by rw [g.d]; exact n3⟩
  | dic l =>
    obtain ⟨p, vs, e2, e3, r, n1, n2, n3⟩ := r
    exact ⟨p, vs, e2, g.s _ _ e3, r.mono g.s0 g.ext.da, by rw [g.f]; exact n1, g.ns e3 n2, by rw [g.d]; exact n3⟩
/-- a new shared object -/
theorem Gr.new {p : Addr} {o : HO} (h : T.Ok) (n : T.H p = none) : Gr T ⟨T.F, upd T.H0 p o, T.Hd, upd T.H p o, T.P⟩ := by
  have nF : ∀ {x}, T.F p = some x → False := fun e => by have := h.sF _ _ e; rw [n] at this; cases this
  have n0 : T.H0 p = none := by cases e : T.H0 p with | none => rfl | some x => have := h.s0 _ _ e; rw [n] at this; cases this
  have nd : T.Hd p = none := by cases e : T.Hd p with | none => rfl | some x => have := h.sd _ _ e; rw [n] at this; cases this
  refine ⟨⟨?_, ?_, ?_, ?_, h.Fd, ?_⟩, rfl, rfl, rfl, same_new n, same_new n0, ?_⟩
  · exact fun b x e => same_new n _ _ (h.sF _ _ e)
  · intro b x e
    dsimp only at e ⊢
    by_cases hb : b = p
    · subst hb; rw [upd_same] at e ⊢; exact e
    · rw [upd_ne hb] at e ⊢; exact h.s0 _ _ e
  · exact fun b x e => same_new n _ _ (h.sd _ _ e)
  · intro b x e
    have hb : b ≠ p := fun z => nF (by rw [← z]; exact e)
    show upd T.H0 p o b = none
    rw [upd_ne hb]
    exact h.F0 e
  · intro b x e
    dsimp only at e ⊢
    by_cases hb : b = p
    · subst hb; exact nd
    · rw [upd_ne hb] at e; exact h.zd e
  · intro b x e n'
    have hb : b ≠ p := fun z => by rw [z, n] at e; cases e
    show upd T.H0 p o b = none
    rw [upd_ne hb]; exact n'
/-- a new object, still one's own -/
theorem Gr.priv {p : Addr} {o : HO} (h : T.Ok) (n : T.H p = none) : Gr T ⟨T.F, T.H0, T.Hd, upd T.H p o, T.P⟩ :=
  ⟨⟨fun b x e => same_new n _ _ (h.sF _ _ e), fun b x e => same_new n _ _ (h.s0 _ _ e), fun b x e => same_new n _ _ (h.sd _ _ e), h.F0, h.Fd, h.zd⟩, rfl, rfl, rfl, same_new n, Same.refl _, fun _ h => h⟩
theorem none_of_le {A B : Hp} {p : Addr} (h : Same A B) (n : B p = none) : A p = none := by
  cases e : A p with
  | none => rfl
  | some x => have := h _ _ e; rw [n] at this; cases this
/-- a slot is stored -/
theorem set_at {α : Type} {l : List α} {i j : Nat} {x c : α} (h : (l.set i x)[j]? = some c) : (i = j ∧ i < l.length ∧ c = x) ∨ (i ≠ j ∧ l[j]? = some c) := by
  by_cases hj : i = j
  · subst hj
    by_cases hl : i < l.length
    · rw [List.getElem?_set_self hl] at h; cases h; exact .inl ⟨rfl, hl, rfl⟩
    · rw [List.getElem?_eq_none (by simpa using hl)] at h; cases h
  · rw [List.getElem?_set_ne hj] at h; exact .inr ⟨hj, h⟩
theorem Sv.set {i : Nat} {v : V} {c : Cell} (h : Sv Γ T σ ρ) (r : CellR Γ T (some v) c) (hd : c.priv = true → ∀ j p c', v = .ref p → ρ[j]? = some c' → c'.priv = true → σ[j]? = some (some (.ref p)) → j = i) : Sv Γ T (σ.set i (some v)) (ρ.set i c) := by
  refine ⟨h.ok, by rw [List.length_set, List.length_set, h.len], fun j c' e => ?_, fun j k p c1 c2 e1 e2 p1 p2 e3 e4 => ?_⟩
  · rcases set_at e with ⟨rfl, hl, rfl⟩ | ⟨hj, e⟩
    · exact ⟨some v, List.getElem?_set_self (by rw [h.len]; exact hl), r⟩
    · rw [List.getElem?_set_ne hj]
      exact h.cell j c' e
  · rcases set_at e1 with ⟨rfl, hl, rfl⟩ | ⟨hj, f1⟩ <;> rcases set_at e2 with ⟨rfl, hl', rfl⟩ | ⟨hk, f2⟩
    · rfl
    · rw [List.getElem?_set_self (by rw [h.len]; exact hl)] at e3
      rw [List.getElem?_set_ne hk] at e4
      cases e3
      exact (hd p1 k p _ rfl f2 p2 e4).symm
    · rw [List.getElem?_set_self (by rw [h.len]; exact hl')] at e4
      rw [List.getElem?_set_ne hj] at e3
      cases e4
      exact hd p2 j p _ rfl f1 p1 e3
    · rw [List.getElem?_set_ne hj] at e3
      rw [List.getElem?_set_ne hk] at e4
      exact h.dist j k p c1 c2 f1 f2 p1 p2 e3 e4
theorem Sv.setVal {i : Nat} {v : V} {d : D} (h : Sv Γ T σ ρ) (r : R Γ T.H0 T.Hd v d) : Sv Γ T (σ.set i (some v)) (ρ.set i (.val d)) :=
  h.set ⟨v, rfl, r⟩ fun e => nomatch e
/-- a slot is known otherwise -/
theorem Sv.re {i : Nat} {c : Cell} (h : Sv Γ T σ ρ) (r : ∀ s, σ[i]? = some s → i < ρ.length → CellR Γ T s c) (hp : c.priv = true → ∃ c', ρ[i]? = some c' ∧ c'.priv = true) : Sv Γ T σ (ρ.set i c) := by
  refine ⟨h.ok, by rw [List.length_set, h.len], fun j c e => ?_, fun j k p c1 c2 e1 e2 p1 p2 e3 e4 => ?_⟩
  · rcases set_at e with ⟨rfl, hl, rfl⟩ | ⟨hj, e⟩
    · have e' := List.getElem?_eq_getElem (l := σ) (i := i) (by rw [h.len]; exact hl)
      exact ⟨_, e', r _ e' hl⟩
    · exact h.cell j c e
  · have f : ∀ {j : Nat} {c1 : Cell}, (ρ.set i c)[j]? = some c1 → c1.priv = true → ∃ c', ρ[j]? = some c' ∧ c'.priv = true := fun {j c1} e p => by
      rcases set_at e with ⟨rfl, hl, rfl⟩ | ⟨hj, e⟩
      · exact hp p
      · exact ⟨_, e, p⟩
    obtain ⟨c1', e1, p1⟩ := f e1 p1
    obtain ⟨c2', e2, p2⟩ := f e2 p2
    exact h.dist j k p _ _ e1 e2 p1 p2 e3 e4
theorem Sv.forget {i : Nat} (h : Sv Γ T σ ρ) : Sv Γ T σ (ρ.set i .no) := h.re (fun _ _ _ => trivial) fun e => nomatch e
end

/-! ### judgements -/
abbrev WE := Vn → (D → Vn → Prop) → Prop
abbrev WF := Vn → (List D → Vn → Prop) → Prop
abbrev WT := Vn → (Bool → Vn → Prop) → Prop
/-- an operand: a value, or what stands in a slot -/
inductive AI where
  | d (d : D)
  | sl (i : Nat)
abbrev WO := Vn → (AI → Vn → Prop) → Prop
abbrev WA := Vn → (List AI → Vn → Prop) → Prop
structure EV where
  nx : Vn → Prop
  rt : D → Prop
  bk : Vn → Prop := fun _ => False
  ct : Vn → Prop := fun _ => False
abbrev WS := EV → Vn → Prop
def AR (Γ : Gx) (T : Wo) (σ : L2.St) (v : V) : AI → Prop
  | .d d => R Γ T.H0 T.Hd v d
  | .sl i => σ[i]? = some (some v)
inductive ARs (Γ : Gx) (T : Wo) (σ : L2.St) : List V → List AI → Prop
  | nil : ARs Γ T σ [] []
  | cons {v : V} {a : AI} {vs : List V} {l : List AI} : AR Γ T σ v a → ARs Γ T σ vs l → ARs Γ T σ (v :: vs) (a :: l)
structure SE (Γ : Gx) (t : TE) (w : WE) : Prop where
  h : ∀ {T : Wo} {σ : L2.St} {ρ : Vn} {Q : D → Vn → Prop} {Q' : VK}, Sv Γ T σ ρ → w ρ Q → (∀ v T' d ρ', Sv Γ T' σ ρ' → Ext Γ T T' → R Γ T'.H0 T'.Hd v d → Q d ρ' → Q' v T'.H) → t σ T.H Q'
/-- a new list -/
structure SF (Γ : Gx) (t : TE) (w : WF) : Prop where
  h : ∀ {T : Wo} {σ : L2.St} {ρ : Vn} {Q : List D → Vn → Prop} {Q' : VK}, Sv Γ T σ ρ → w ρ Q → (∀ p vs T' l ρ', Sv Γ T' σ ρ' → Ext Γ T T' → T'.H p = some (.lst vs) → T'.F p = none → T'.H0 p = none → T'.Hd p = none → (∀ (j : Nat) (c : Cell), ρ'[j]? = some c → c.priv = true → σ[j]? ≠ some (some (.ref p))) → RA Γ T'.H0 T'.Hd vs l → Q l ρ' → Q' (.ref p) T'.H) → t σ T.H Q'
structure ST (Γ : Gx) (t : TT) (w : WT) : Prop where
  h : ∀ {T : Wo} {σ : L2.St} {ρ : Vn} {Q : Bool → Vn → Prop} {Q' : Bool → Hp → Prop}, Sv Γ T σ ρ → w ρ Q → (∀ b T' ρ', Sv Γ T' σ ρ' → Ext Γ T T' → Q b ρ' → Q' b T'.H) → t σ T.H Q'
structure SO (Γ : Gx) (t : TE) (w : WO) : Prop where
  h : ∀ {T : Wo} {σ : L2.St} {ρ : Vn} {Q : AI → Vn → Prop} {Q' : VK}, Sv Γ T σ ρ → w ρ Q → (∀ v T' a ρ', Sv Γ T' σ ρ' → Ext Γ T T' → AR Γ T' σ v a → Q a ρ' → Q' v T'.H) → t σ T.H Q'
structure SA (Γ : Gx) (t : TA) (w : WA) : Prop where
  h : ∀ {T : Wo} {σ : L2.St} {ρ : Vn} {Q : List AI → Vn → Prop} {Q' : List V → Hp → Prop}, Sv Γ T σ ρ → w ρ Q → (∀ vs T' as ρ', Sv Γ T' σ ρ' → Ext Γ T T' → ARs Γ T' σ vs as → Q as ρ' → Q' vs T'.H) → t σ T.H Q'
structure SS (Γ : Gx) (t : TS) (w : WS) : Prop where
  h : ∀ {T : Wo} {σ : L2.St} {ρ : Vn} {D : EV} {D' : Ends}, Sv Γ T σ ρ → w D ρ →
    (∀ T' σ' ρ', Sv Γ T' σ' ρ' → Ext Γ T T' → D.nx ρ' → D'.nx σ' T'.H) →
    (∀ T' v d, T'.Ok → Ext Γ T T' → R Γ T'.H0 T'.Hd v d → D.rt d → D'.rt v T'.H) →
    (∀ T' σ' ρ', Sv Γ T' σ' ρ' → Ext Γ T T' → D.bk ρ' → D'.bk σ' T'.H) →
    (∀ T' σ' ρ', Sv Γ T' σ' ρ' → Ext Γ T T' → D.ct ρ' → D'.ct σ' T'.H) → t D' σ T.H
structure VE (Γ : Gx) (X : Cx) (e : Expr) (t : TE) (w : WE) : Prop where
  pe : PE X e t
  se : SE Γ t w
structure VF (Γ : Gx) (X : Cx) (e : Expr) (t : TE) (w : WF) : Prop where
  pe : PE X e t
  se : SF Γ t w
structure VO (Γ : Gx) (X : Cx) (e : Expr) (t : TE) (w : WO) : Prop where
  pe : PE X e t
  se : SO Γ t w
structure VA (Γ : Gx) (X : Cx) (es : List Expr) (t : TA) (w : WA) : Prop where
  pe : PA X es t
  se : SA Γ t w
structure VT (Γ : Gx) (X : Cx) (e : Expr) (t : TT) (w : WT) : Prop where
  pe : PT X e t
  se : ST Γ t w
structure VW (Γ : Gx) (X : Cx) (e : Expr) (t : TT) (w : WT) : Prop where
  pe : PW X e t
  se : ST Γ t w
structure VS (Γ : Gx) (X : Cx) (s : Stmt) (t : TS) (w : WS) : Prop where
  pe : PS X s t
  se : SS Γ t w
structure VB (Γ : Gx) (X : Cx) (s : List Stmt) (t : TS) (w : WS) : Prop where
  pe : PSs X s t
  se : SS Γ t w

/-! ### names, constants -/
@[simp] def cVal : Cell → (D → Prop) → Prop
  | .val d, k => k d
  | _, _ => False
@[simp] def cRd : Cell → (D → Prop) → Prop
  | .val d, k => k d
  | .own l, k => k (.lst l)
  | .pin _ l, k => k (.lst l)
  | .dic l, k => k (.dct l)
  | _, _ => False
@[simp] def cOwn : Cell → (List D → Prop) → Prop
  | .own l, k => k l
  | _, _ => False
@[simp] def wVar (i : Nat) : WE := fun ρ Q => cVal (ρ.getD i .no) fun d => Q d ρ
@[simp] def wC (d : D) : WE := fun ρ Q => Q d ρ
@[simp] def wSl (i : Nat) : WO := fun ρ Q => cRd (ρ.getD i .no) fun _ => Q (.sl i) ρ
@[simp] def wOf (w : WE) : WO := fun ρ Q => w ρ fun d ρ' => Q (.d d) ρ'
/-- an operand's value -/
@[simp] def rs1 (ρ : Vn) : AI → (D → Prop) → Prop
  | .d d, k => k d
  | .sl i, k => cRd (ρ.getD i .no) k
@[simp] def rsN (ρ : Vn) : List AI → (List D → Prop) → Prop
  | [], k => k []
  | a :: r, k => rs1 ρ a fun d => rsN ρ r fun ds => k (d :: ds)
section
variable {Γ : Gx} {T : Wo} {σ : L2.St} {ρ : Vn} {i : Nat}
theorem getD_of {c : Cell} (h : ρ.getD i .no = c) (hc : c ≠ .no) : ρ[i]? = some c := by
  rw [List.getD_eq_getElem?_getD] at h
  cases e : ρ[i]? with
  | none => rw [e] at h; exact absurd h.symm hc
  | some x => rw [e] at h; exact congrArg some h
theorem cVal_of {c : Cell} {k : D → Prop} (h : cVal c k) : ∃ d, c = .val d ∧ k d := by
  cases c with
  | val d => exact ⟨d, rfl, h⟩
  | _ => exact h.elim
@[simp] def cDic : Cell → (List (Key × D) → Prop) → Prop
  | .dic l, k => k l
  | _, _ => False
theorem cDic_of {c : Cell} {k : List (Key × D) → Prop} (h : cDic c k) : ∃ d, c = .dic d ∧ k d := by
  cases c with
  | dic d => exact ⟨d, rfl, h⟩
  | _ => exact h.elim
@[simp] def cObj : Cell → (Addr → Str → List (Str × D) → Prop) → Prop
  | .obj p c l, k => k p c l
  | _, _ => False
theorem cObj_of {c : Cell} {k : Addr → Str → List (Str × D) → Prop} (h : cObj c k) : ∃ p n d, c = .obj p n d ∧ k p n d := by
  cases c with
  | obj p n d => exact ⟨p, n, d, rfl, h⟩
  | _ => exact h.elim
theorem cOwn_of {c : Cell} {k : List D → Prop} (h : cOwn c k) : ∃ d, c = .own d ∧ k d := by
  cases c with
  | own d => exact ⟨d, rfl, h⟩
  | _ => exact h.elim
/-- a value as an operand reads it: shared, or a list that stands by itself with shared items -/
inductive RO (Γ : Gx) (T : Wo) : V → D → Prop
  | sh {v d} : R Γ T.H0 T.Hd v d → RO Γ T v d
  | li {p vs l} : T.H p = some (.lst vs) → RA Γ T.H0 T.Hd vs l → RO Γ T (.ref p) (.lst l)
  | di {p vs l} : T.H p = some (.dK vs) → RK Γ T.H0 T.Hd vs l → RO Γ T (.ref p) (.dct l)
inductive ROs (Γ : Gx) (T : Wo) : List V → List D → Prop
  | nil : ROs Γ T [] []
  | cons {v d vs l} : RO Γ T v d → ROs Γ T vs l → ROs Γ T (v :: vs) (d :: l)
theorem Sv.rd {s : V} {k : D → Prop} (S : Sv Γ T σ ρ) (hs : σ[i]? = some (some s)) (h : cRd (ρ.getD i .no) k) : ∃ d, RO Γ T s d ∧ k d := by
  cases e : ρ.getD i .no with
  | no => rw [e] at h; exact h.elim
  | val d =>
    rw [e] at h
    obtain ⟨s', e1, v, e2, r⟩ := S.cell i _ (getD_of e (by simp))
    rw [hs] at e1; cases e1; cases e2
    exact ⟨d, .sh r, h⟩
  | own l =>
    rw [e] at h
    obtain ⟨s', e1, p, vs, e2, hp, r, _⟩ := S.cell i _ (getD_of e (by simp))
    rw [hs] at e1; cases e1; cases e2
    exact ⟨_, .li hp r, h⟩
  | pin p l =>
    rw [e] at h
    obtain ⟨s', e1, vs, e2, _, hp, r⟩ := S.cell i _ (getD_of e (by simp))
    rw [hs] at e1; cases e1; cases e2
    exact ⟨_, .li (S.ok.sF _ _ hp) r, h⟩
  | dic l =>
    rw [e] at h
    obtain ⟨s', e1, p, vs, e2, hp, r, _⟩ := S.cell i _ (getD_of e (by simp))
    rw [hs] at e1; cases e1; cases e2
    exact ⟨_, .di hp r, h⟩
  | _ => rw [e] at h; exact h.elim
theorem Sv.rd' {k : D → Prop} (S : Sv Γ T σ ρ) (h : cRd (ρ.getD i .no) k) : ∃ s, σ[i]? = some (some s) := by
  cases e : ρ.getD i .no with
  | no => rw [e] at h; exact h.elim
  | val d => obtain ⟨s', e1, v, e2, r⟩ := S.cell i _ (getD_of e (by simp)); exact ⟨v, by rw [e1, e2]⟩
  | own l => obtain ⟨s', e1, p, vs, e2, _⟩ := S.cell i _ (getD_of e (by simp)); exact ⟨_, by rw [e1, e2]⟩
  | pin p l => obtain ⟨s', e1, vs, e2, _⟩ := S.cell i _ (getD_of e (by simp)); exact ⟨_, by rw [e1, e2]⟩
  | dic l => obtain ⟨s', e1, p, vs, e2, _⟩ := S.cell i _ (getD_of e (by simp)); exact ⟨_, by rw [e1, e2]⟩
  | _ => rw [e] at h; exact h.elim
theorem Sv.rs1 {v : V} {a : AI} {k : D → Prop} (S : Sv Γ T σ ρ) (ha : AR Γ T σ v a) (h : rs1 ρ a k) : ∃ d, RO Γ T v d ∧ k d := by
  cases a with
  | d d => exact ⟨d, .sh ha, h⟩
  | sl i => exact S.rd ha h
theorem Sv.rsN : ∀ {vs : List V} {as : List AI} {k : List D → Prop} (S : Sv Γ T σ ρ) (ha : ARs Γ T σ vs as) (h : rsN ρ as k), ∃ ds, ROs Γ T vs ds ∧ k ds
  | _, _, _, S, .nil, h => ⟨[], .nil, h⟩
  | _, _, _, S, .cons a r, h => by
    obtain ⟨d, r1, h⟩ := S.rs1 a h
    obtain ⟨ds, r2, h⟩ := Sv.rsN S r h
    exact ⟨d :: ds, .cons r1 r2, h⟩
theorem AR.ext {T' : Wo} {v : V} {a : AI} (h : AR Γ T σ v a) (e : Ext Γ T T') : AR Γ T' σ v a := by
  cases a with
  | d d => exact R.ext e h
  | sl i => exact h
variable {X : Cx} {e : Expr} {x : Str} {p : Pos}
theorem ve_var (hp : PE X e (tVar i)) : VE Γ X e (tVar i) (wVar i) := ⟨hp, ⟨fun {T σ ρ Q Q'} S h q => by
  obtain ⟨d, e, h⟩ := cVal_of h
  obtain ⟨s, e1, v, e2, r⟩ := S.cell i _ (getD_of e (by simp))
  exact ⟨v, by rw [e1, e2], q v T d ρ S .refl r h⟩⟩⟩
theorem vo_var (hp : PE X e (tVar i)) : VO Γ X e (tVar i) (wSl i) := ⟨hp, ⟨fun {T σ ρ Q Q'} S h q => by
  obtain ⟨s, hs⟩ := S.rd' h
  obtain ⟨d, _, h⟩ := S.rd hs h
  exact ⟨s, hs, q s T (.sl i) ρ S .refl hs h⟩⟩⟩
theorem vo_of {t : TE} {w : WE} (h : VE Γ X e t w) : VO Γ X e t (wOf w) := ⟨h.pe, ⟨fun S hw q => h.se.h S hw fun v T' d ρ' S' e' r' z => q v T' (.d d) ρ' S' e' r' z⟩⟩
theorem ve_c {v : V} {d : D} (hp : PE X e (tC v)) (r : ∀ H0 Hd, R Γ H0 Hd v d) : VE Γ X e (tC v) (wC d) := ⟨hp, ⟨fun {T σ ρ Q Q'} S h q => q v T d ρ S .refl (r _ _) h⟩⟩
theorem ve_int {i : Int} (hp : PE X e (tC (.int i))) : VE Γ X e (tC (.int i)) (wC (.int i)) := ve_c hp fun _ _ => .int i
theorem ve_bl {i : Bool} (hp : PE X e (tC (.bl i))) : VE Γ X e (tC (.bl i)) (wC (.bl i)) := ve_c hp fun _ _ => .bl i
theorem ve_str {i : Str} (hp : PE X e (tC (.str i))) : VE Γ X e (tC (.str i)) (wC (.str i)) := ve_c hp fun _ _ => .str i
theorem ve_non (hp : PE X e (tC .non)) : VE Γ X e (tC .non) (wC .non) := ve_c hp fun _ _ => .non
end
end Vl

namespace Vl
open PySem PySem.Spec PyProof.Rows L2 Hl

/-! ### operators by values -/
abbrev G1 := D → (D → Prop) → Prop
abbrev G2 := D → D → (D → Prop) → Prop
abbrev GN := List D → (D → Prop) → Prop
abbrev F2 := D → D → (List D → Prop) → Prop
abbrev FN := List D → (List D → Prop) → Prop
structure OS (Γ : Gx) (r : R2) (g : G2) : Prop where
  h : ∀ {T : Wo} {x y : V} {a b : D} {Q : D → Prop} {Q' : VK}, T.Ok → RO Γ T x a → RO Γ T y b → g a b Q → (∀ v T' d, Gr T T' → R Γ T'.H0 T'.Hd v d → Q d → Q' v T'.H) → r x y T.H Q'
structure OSF (Γ : Gx) (r : R2) (g : F2) : Prop where
  h : ∀ {T : Wo} {x y : V} {a b : D} {Q : List D → Prop} {Q' : VK}, T.Ok → RO Γ T x a → RO Γ T y b → g a b Q → (∀ p vs l, T.H p = none → RA Γ T.H0 T.Hd vs l → Q l → Q' (.ref p) (upd T.H p (.lst vs))) → r x y T.H Q'
structure CS (Γ : Gx) (r : List V → Hp → VK → Prop) (g : GN) : Prop where
  h : ∀ {T : Wo} {xs : List V} {as : List D} {Q : D → Prop} {Q' : VK}, T.Ok → ROs Γ T xs as → g as Q → (∀ v T' d, Gr T T' → R Γ T'.H0 T'.Hd v d → Q d → Q' v T'.H) → r xs T.H Q'
structure CSF (Γ : Gx) (r : List V → Hp → VK → Prop) (g : FN) : Prop where
  h : ∀ {T : Wo} {xs : List V} {as : List D} {Q : List D → Prop} {Q' : VK}, T.Ok → ROs Γ T xs as → g as Q → (∀ p vs l, T.H p = none → RA Γ T.H0 T.Hd vs l → Q l → Q' (.ref p) (upd T.H p (.lst vs))) → r xs T.H Q'
theorem opr_or {X : Cx} {f : Value → Value → Sem Value} {r r' : R2} (h : OpR X f r) (h' : OpR X f r') : OpR X f (fun x y H Q => r x y H Q ∨ r' x y H Q) :=
  fun pins s σ H x y v u Q I rx ry q => q.elim (h pins s σ H x y v u Q I rx ry) (h' pins s σ H x y v u Q I rx ry)
theorem cr_or {X : Cx} {f : Value} {r r' : List V → Hp → VK → Prop} (h : CallR X f r) (h' : CallR X f r') : CallR X f (fun x H Q => r x H Q ∨ r' x H Q) :=
  fun pins s σ H x us Q I rx q => Or.elim q (h pins s σ H x us Q I rx) (h' pins s σ H x us Q I rx)
section
variable {Γ : Gx} {T : Wo} {v : V}
theorem RO.non (h : RO Γ T v .non) : v = .non := by
  cases h with
  | sh h => cases h; rfl
theorem RO.bl {b : Bool} (h : RO Γ T v (.bl b)) : v = .bl b := by
  cases h with
  | sh h => cases h; rfl
theorem RO.int {b : Int} (h : RO Γ T v (.int b)) : v = .int b := by
  cases h with
  | sh h => cases h; rfl
theorem RO.str {b : Str} (h : RO Γ T v (.str b)) : v = .str b := by
  cases h with
  | sh h => cases h; rfl
theorem RO.tup {l : List D} (ok : T.Ok) (h : RO Γ T v (.tup l)) : ∃ a vs, v = .ref a ∧ SqT Γ.K T.H a vs ∧ RA Γ T.H0 T.Hd vs l := by
  cases h with
  | sh h =>
    cases h with
    | tup h a => exact ⟨_, _, rfl, seqT ok.s0 h, a⟩
theorem RO.lst {l : List D} (ok : T.Ok) (h : RO Γ T v (.lst l)) : ∃ a vs, v = .ref a ∧ T.H a = some (.lst vs) ∧ RA Γ T.H0 T.Hd vs l := by
  cases h with
  | sh h =>
    cases h with
    | lst h a => exact ⟨_, _, rfl, ok.s0 _ _ h, a⟩
  | li h a => exact ⟨_, _, rfl, h, a⟩
theorem RO.isNon {d : D} (h : RO Γ T v d) : v = .non ↔ d = .non := by
  cases h with
  | sh h => cases h <;> simp
  | li h a => simp
  | di h a => simp
theorem RO.dct {l : List (Key × D)} (ok : T.Ok) (h : RO Γ T v (.dct l)) : ∃ a vs, v = .ref a ∧ T.H a = some (.dK vs) ∧ RK Γ T.H0 T.Hd vs l := by
  cases h with
  | sh h =>
    cases h with
    | dct h a => exact ⟨_, _, rfl, ok.s0 _ _ h, a⟩
  | di h a => exact ⟨_, _, rfl, h, a⟩
theorem ROs.one {xs : List V} {d : D} (h : ROs Γ T xs [d]) : ∃ v, xs = [v] ∧ RO Γ T v d := by
  cases h with
  | cons h t => cases t; exact ⟨_, rfl, h⟩
theorem ROs.two {xs : List V} {d e : D} (h : ROs Γ T xs [d, e]) : ∃ v u, xs = [v, u] ∧ RO Γ T v d ∧ RO Γ T u e := by
  cases h with
  | cons h t =>
    obtain ⟨u, rfl, r⟩ := t.one
    exact ⟨_, _, rfl, h, r⟩
theorem ROs.three {xs : List V} {d e f : D} (h : ROs Γ T xs [d, e, f]) : ∃ v u w, xs = [v, u, w] ∧ RO Γ T v d ∧ RO Γ T u e ∧ RO Γ T w f := by
  cases h with
  | cons h t =>
    obtain ⟨u, w, rfl, r⟩ := t.two
    exact ⟨_, _, _, rfl, h, r⟩
theorem gr_sc {T : Wo} {Q' : VK} {d : D} {v : V} {Q : D → Prop} (ok : T.Ok) (q : ∀ v T' d, Gr T T' → R Γ T'.H0 T'.Hd v d → Q d → Q' v T'.H) (r : R Γ T.H0 T.Hd v d) (h : Q d) : Q' v T.H := q v T d (.refl ok) r h
theorem gr_new {T : Wo} {Q' : VK} {d : D} {p : Addr} {o : HO} {Q : D → Prop} (ok : T.Ok) (q : ∀ v T' d, Gr T T' → R Γ T'.H0 T'.Hd v d → Q d → Q' v T'.H) (n : T.H p = none) (r : R Γ (upd T.H0 p o) T.Hd (.ref p) d) (h : Q d) : Q' (.ref p) (upd T.H p o) := q _ _ d (Gr.new ok n) r h
theorem RA.newer {T : Wo} {p : Addr} {o : HO} {vs : List V} {l : List D} (ok : T.Ok) (n : T.H p = none) (h : RA Γ T.H0 T.Hd vs l) : RA Γ (upd T.H0 p o) T.Hd vs l := h.mono (same_new (none_of_le ok.s0 n)) fun _ h => h
theorem r_tup {T : Wo} {p : Addr} {vs : List V} {l : List D} (ok : T.Ok) (n : T.H p = none) (h : RA Γ T.H0 T.Hd vs l) : R Γ (upd T.H0 p (.tup vs)) T.Hd (.ref p) (.tup l) := .tup (SqT.of upd_same) (h.newer ok n)
theorem r_lst {T : Wo} {p : Addr} {vs : List V} {l : List D} (ok : T.Ok) (n : T.H p = none) (h : RA Γ T.H0 T.Hd vs l) : R Γ (upd T.H0 p (.lst vs)) T.Hd (.ref p) (.lst l) := .lst upd_same (h.newer ok n)
end

/-! ### numbers -/
@[simp] def gI (f : Int → Int → Int) : G2
  | .int i, .int j, k => k (.int (f i j))
  | _, _, _ => False
@[simp] def gIc (C : Int → Int → Prop) (f : Int → Int → Int) : G2
  | .int i, .int j, k => C i j ∧ k (.int (f i j))
  | _, _, _ => False
@[simp] def gB (f : Int → Int → Bool) : G2
  | .int i, .int j, k => k (.bl (f i j))
  | _, _, _ => False
section
variable {Γ : Gx}
theorem os_I {f : Int → Int → Int} : OS Γ (rI0 fun i j => .int (f i j)) (gI f) := ⟨fun {T x y a b Q Q'} ok rx ry h q => by
  cases a <;> cases b <;> first | exact h.elim | skip
  obtain rfl := rx.int
  obtain rfl := ry.int
  exact ⟨_, _, rfl, rfl, gr_sc ok q (.int _) h⟩⟩
theorem os_Ic {C : Int → Int → Prop} {f : Int → Int → Int} : OS Γ (rI C fun i j => .int (f i j)) (gIc C f) := ⟨fun {T x y a b Q Q'} ok rx ry h q => by
  cases a <;> cases b <;> first | exact h.elim | skip
  obtain rfl := rx.int
  obtain rfl := ry.int
  exact ⟨_, _, rfl, rfl, h.1, gr_sc ok q (.int _) h.2⟩⟩
theorem os_B {f : Int → Int → Bool} : OS Γ (rI0 fun i j => .bl (f i j)) (gB f) := ⟨fun {T x y a b Q Q'} ok rx ry h q => by
  cases a <;> cases b <;> first | exact h.elim | skip
  obtain rfl := rx.int
  obtain rfl := ry.int
  exact ⟨_, _, rfl, rfl, gr_sc ok q (.bl _) h⟩⟩
end

/-! ### t + u from nothing -/
def rCatT0 (K : PySem.W.Frag) : R2 := fun x y H Q => ∃ a b ys, x = .ref a ∧ y = .ref b ∧ SqT K H a [] ∧ SqT K H b ys ∧ Q (.ref b) H
theorem op_catT0 {X : Cx} : OpR X (binaryOp .Add) (rCatT0 X.K) := by
  intro pins s σ H x y v u Q I rx ry h
  obtain ⟨a, b, ys, rfl, rfl, ha, hb, q⟩ := h
  cases rx
  cases ry
  obtain ⟨its, r1, p1, _⟩ := I.tuple ha
  obtain ⟨its2, r2, p2, _⟩ := I.tuple hb
  cases r1
  obtain ⟨⟨cls, dd, data, sl⟩, ho, hc, n, hd⟩ := id p1
  obtain ⟨⟨cls2, dd2, data2, sl2⟩, ho2, hc2, n2, hd2⟩ := id p2
  simp only at hc hd hc2 hd2
  subst hc hd hc2 hd2
  exact concat_meets ⟨_, ho, rfl⟩ ⟨_, ho2, rfl⟩ noFill_tuple_add seq_tuple_add PySem.F.slot_tuple_add PySem.F.entry_tuple_add (PySem.F.args_tuple_add_2 _ _)
      (tuple_addW0 a b _ its2.toArray n n2 dd dd2 sl sl2 (by simp)) ⟨ho, ho2, ⟨.ref b, H, I, rfl, q⟩⟩
abbrev rAddP (K : PySem.W.Frag) : R2 := fun x y H Q => rI0 (fun i j => .int (i + j)) x y H Q ∨ (rCatT K x y H Q ∨ (rCatT0 K x y H Q ∨ (rCat x y H Q ∨ (∃ i j, x = .str i ∧ y = .str j ∧ i.length + j.length ≤ sizeLine ∧ Q (.str (i ++ j)) H))))
theorem op_addP {X : Cx} {K : PySem.W.Frag} (h : X.K = K) : OpR X (binaryOp .Add) (rAddP K) := by subst h; exact opr_or op_add (opr_or op_catT (opr_or op_catT0 (opr_or op_cat op_add_str)))
@[simp] def gAdd : G2
  | .int i, .int j, k => k (.int (i + j))
  | .str i, .str j, k => i.length + j.length ≤ sizeLine ∧ k (.str (i ++ j))
  | .tup i, .tup j, k => i.length + j.length ≤ sizeLine ∧ k (.tup (i ++ j))
  | .lst i, .lst j, k => i.length + j.length ≤ sizeLine ∧ k (.lst (i ++ j))
  | _, _, _ => False
@[simp] def fCat : F2
  | .lst i, .lst j, k => i.length + j.length ≤ sizeLine ∧ k (i ++ j)
  | _, _, _ => False
section
variable {Γ : Gx}
theorem os_add : OS Γ (rAddP Γ.K) gAdd := ⟨fun {T x y a b Q Q'} ok rx ry h q => by
  cases a <;> cases b <;> first | exact h.elim | skip
  · obtain rfl := rx.int
    obtain rfl := ry.int
    exact .inl ⟨_, _, rfl, rfl, gr_sc ok q (.int _) h⟩
  · obtain rfl := rx.str
    obtain rfl := ry.str
    exact .inr (.inr (.inr (.inr ⟨_, _, rfl, rfl, h.1, gr_sc ok q (.str _) h.2⟩)))
  · obtain ⟨a, vs, rfl, ha, ra⟩ := rx.tup ok
    obtain ⟨b, us, rfl, hb, rb⟩ := ry.tup ok
    obtain ⟨hz, h⟩ := h
    rw [← ra.len, ← rb.len] at hz
    cases ra with
    | nil => 
      refine .inr (.inr (.inl ⟨_, _, _, rfl, rfl, ha, hb, ?_⟩))
      cases ry with
      | sh r => exact gr_sc ok q r h
    | cons r t =>
      refine .inr (.inl ⟨_, _, _, _, rfl, rfl, ha, hb, by simp, hz, fun e => ?_, fun e p n => gr_new ok q n (r_tup ok n ((RA.cons r t).app rb)) h⟩)
      subst e
      cases rb
      rw [List.append_nil] at h
      cases rx with
      | sh r => exact gr_sc ok q r h
  · obtain ⟨a, vs, rfl, ha, ra⟩ := rx.lst ok
    obtain ⟨b, us, rfl, hb, rb⟩ := ry.lst ok
    obtain ⟨hz, h⟩ := h
    rw [← ra.len, ← rb.len] at hz
    exact .inr (.inr (.inr (.inl ⟨_, _, _, _, rfl, rfl, ha, hb, hz, fun p n => gr_new ok q n (r_lst ok n (ra.app rb)) h⟩)))⟩
theorem os_cat : OSF Γ rCat fCat := ⟨fun {T x y a b Q Q'} ok rx ry h q => by
  cases a <;> cases b <;> first | exact h.elim | skip
  obtain ⟨a, vs, rfl, ha, ra⟩ := rx.lst ok
  obtain ⟨b, us, rfl, hb, rb⟩ := ry.lst ok
  obtain ⟨hz, h⟩ := h
  rw [← ra.len, ← rb.len] at hz
  exact ⟨_, _, _, _, rfl, rfl, ha, hb, hz, fun p n => q p _ _ n (ra.app rb) h⟩⟩
end

/-! ### data, equality -/
@[simp] def D.dat : Nat → D → Bool
  | _, .non => true
  | _, .bl _ => true
  | _, .int _ => true
  | _, .str z => PyData.strOk z
  | n + 1, .tup l => l.all (D.dat n)
  | n + 1, .lst l => l.all (D.dat n)
  | _, _ => false
mutual
def D.pd : D → PyData
  | .non => .none
  | .bl b => .bool b
  | .int i => .int i
  | .str z => .str z
  | .tup l => .tuple (D.pdL l)
  | .lst l => .list (D.pdL l)
  | _ => .none
def D.pdL : List D → List PyData
  | [] => []
  | d :: l => d.pd :: D.pdL l
end
theorem D.pdL_map : ∀ l : List D, D.pdL l = l.map D.pd
  | [] => rfl
  | d :: l => by rw [D.pdL, D.pdL_map l, List.map_cons]
def D.eqv (a b : D) : Bool := PyData.eqv a.pd b.pd
theorem dat_shape : ∀ {n : Nat} {d : D}, d.dat n = true → d.pd.canLay0 = true ∧ d.pd.depth ≤ n := by
  have hall : ∀ {n : Nat}, (∀ {d : D}, d.dat n = true → d.pd.canLay0 = true ∧ d.pd.depth ≤ n) → ∀ l : List D, l.all (D.dat n) = true → PyData.canLayAll0 (D.pdL l) = true ∧ PyData.depthAll (D.pdL l) ≤ n := by
    intro n ih l
    induction l with
    | nil => intro _; exact ⟨by simp [D.pdL, PyData.canLayAll0], by simp [D.pdL, PyData.depthAll]⟩
    | cons d l il =>
      intro h
      rw [List.all_cons, Bool.and_eq_true] at h
      obtain ⟨h1, h2⟩ := ih h.1
      obtain ⟨h3, h4⟩ := il h.2
      refine ⟨by simp [D.pdL, PyData.canLayAll0, h1, h3], ?_⟩
      simp only [D.pdL, PyData.depthAll]
      omega
  intro n
  induction n with
  | zero =>
    intro d h
    cases d with
    | str z =>
      have h2 : PyData.strOk z = true := h
      exact ⟨by simp [D.pd, PyData.canLay0, h2], Nat.le_refl _⟩
    | non => exact ⟨rfl, Nat.zero_le _⟩
    | bl b => exact ⟨rfl, Nat.zero_le _⟩
    | int b => exact ⟨rfl, Nat.zero_le _⟩
    | _ => cases h
  | succ n ih =>
    intro d h
    cases d with
    | non => exact ⟨rfl, Nat.zero_le _⟩
    | bl b => exact ⟨rfl, Nat.zero_le _⟩
    | int b => exact ⟨rfl, Nat.zero_le _⟩
    | str b =>
      have h2 : PyData.strOk b = true := h
      exact ⟨by simp [D.pd, PyData.canLay0, h2], Nat.zero_le _⟩
    | tup l =>
      obtain ⟨h1, h2⟩ := hall ih l (by rw [← h, D.dat])
      exact ⟨by simp [D.pd, PyData.canLay0, h1], by simp [D.pd, PyData.depth]; omega⟩
    | lst l =>
      obtain ⟨h1, h2⟩ := hall ih l (by rw [← h, D.dat])
      exact ⟨by simp [D.pd, PyData.canLay0, h1], by simp [D.pd, PyData.depth]; omega⟩
    | _ => cases h
theorem dat_shaped {n : Nat} {d : D} (hn : n ≤ 64) (h : d.dat n = true) : SeqAt.shaped d.pd = true := by
  obtain ⟨h1, h2⟩ := dat_shape h
  unfold SeqAt.shaped
  rw [h1, decide_eq_true (Nat.le_trans h2 hn)]
  rfl
section
variable {Γ : Gx} {T : Wo}
mutual
theorem R.dp (ok : T.Ok) : ∀ {v : V} {d : D} {n : Nat}, R Γ T.H0 T.Hd v d → d.dat n = true → Dp Γ.K T.H v d.pd
  | _, _, _, .non, _ => .non
  | _, _, _, .bl b, _ => .bl b
  | _, _, _, .int i, _ => .int i
  | _, _, _, .str z, _ => .str z
  | _, _, 0, .tup h a, e => nomatch e
  | _, _, n + 1, .tup h a, e => .tup (seqT ok.s0 h) (RA.dp ok a (n := n) (by rw [← e, D.dat]))
  | _, _, 0, .lst h a, e => nomatch e
  | _, _, n + 1, .lst h a, e => .lst (SqL.of (ok.s0 _ _ h)) (RA.dp ok a (n := n) (by rw [← e, D.dat]))
  | _, _, 0, .obj _ _ _ _ _, e => nomatch e
  | _, _, _ + 1, .obj _ _ _ _ _, e => nomatch e
  | _, _, 0, .hnd _, e => nomatch e
  | _, _, _ + 1, .hnd _, e => nomatch e
  | _, _, 0, .scr _, e => nomatch e
  | _, _, _ + 1, .scr _, e => nomatch e
  | _, _, 0, .dct _ _, e => nomatch e
  | _, _, _ + 1, .dct _ _, e => nomatch e
  | _, _, 0, .set _, e => nomatch e
  | _, _, _ + 1, .set _, e => nomatch e
theorem RA.dp (ok : T.Ok) : ∀ {vs : List V} {l : List D} {n : Nat}, RA Γ T.H0 T.Hd vs l → l.all (D.dat n) = true → DpAll Γ.K T.H vs (D.pdL l)
  | _, _, _, .nil, _ => .nil
  | _, _, n, .cons (d := d) h t, e => by
    rw [List.all_cons, Bool.and_eq_true] at e
    exact .cons (R.dp ok h e.1) (RA.dp ok t e.2)
end
theorem RO.dp (ok : T.Ok) {v : V} {d : D} {n : Nat} (h : RO Γ T v d) (e : d.dat n = true) : Dp Γ.K T.H v d.pd := by
  cases h with
  | sh h => exact h.dp ok e
  | di h a => cases n <;> cases e
  | li h a =>
    cases n with
    | zero => cases e
    | succ n => exact .lst (SqL.of h) (RA.dp ok a (n := n) (by rw [← e, D.dat]))
/-- the bound on the depth of data that are compared -/
def dmax : Nat := 8
@[simp] def gEq : G2 := fun a b k => (a.dat dmax = true ∧ b.dat dmax = true) ∧ k (.bl (D.eqv a b))
@[simp] def gNe : G2 := fun a b k => (a.dat dmax = true ∧ b.dat dmax = true) ∧ k (.bl (!D.eqv a b))
theorem os_eq : OS Γ (rEqD Γ.K) gEq := ⟨fun {T x y a b Q Q'} ok rx ry h q =>
  ⟨_, _, rx.dp ok h.1.1, ry.dp ok h.1.2, dat_shaped (by decide) h.1.1, dat_shaped (by decide) h.1.2, gr_sc ok q (.bl _) h.2⟩⟩
theorem os_ne : OS Γ (rNeD Γ.K) gNe := ⟨fun {T x y a b Q Q'} ok rx ry h q =>
  ⟨_, _, rx.dp ok h.1.1, ry.dp ok h.1.2, dat_shaped (by decide) h.1.1, dat_shaped (by decide) h.1.2, gr_sc ok q (.bl _) h.2⟩⟩
/-! ### is None, is True -/
@[simp] def D.isNon : D → Bool
  | .non => true
  | _ => false
theorem isNon_iff {v : V} {d : D} (h : RO Γ T v d) : decide (v = .non) = d.isNon := by
  have e := h.isNon
  cases d <;> simp [D.isNon] at e ⊢ <;> exact e
@[simp] def gIsN : G2
  | a, .non, k => k (.bl a.isNon)
  | _, _, _ => False
@[simp] def gNotN : G2
  | a, .non, k => k (.bl (!a.isNon))
  | _, _, _ => False
theorem os_isN : OS Γ (fun x y H Q => y = .non ∧ Q (.bl (decide (x = .non))) H) gIsN := ⟨fun {T x y a b Q Q'} ok rx ry h q => by
  cases b <;> first | exact h.elim | skip
  refine ⟨ry.non, ?_⟩
  rw [isNon_iff rx]
  exact gr_sc ok q (.bl _) h⟩
theorem os_notN : OS Γ (fun x y H Q => y = .non ∧ Q (.bl (!decide (x = .non))) H) gNotN := ⟨fun {T x y a b Q Q'} ok rx ry h q => by
  cases b <;> first | exact h.elim | skip
  refine ⟨ry.non, ?_⟩
  rw [isNon_iff rx]
  exact gr_sc ok q (.bl _) h⟩
@[simp] def gIsB : G2
  | .bl a, .bl b, k => k (.bl (decide (a = b)))
  | _, _, _ => False
theorem os_isB : OS Γ rIsB gIsB := ⟨fun {T x y a b Q Q'} ok rx ry h q => by
  cases a <;> cases b <;> first | exact h.elim | skip
  exact ⟨_, _, rx.bl, ry.bl, gr_sc ok q (.bl _) h⟩⟩
/-! ### in -/
@[simp] def D.flat : D → Bool
  | .non => true
  | .bl _ => true
  | .int _ => true
  | .str _ => true
  | _ => false
theorem R.flat {v : V} {d : D} {H0 Hd : Hp} (h : R Γ H0 Hd v d) (f : d.flat = true) : flatV v = true := by cases h <;> first | rfl | cases f
theorem R.eqf {v u : V} {d e : D} {H0 Hd H0' Hd' : Hp} (h : R Γ H0 Hd v d) (h' : R Γ H0' Hd' u e) (f : d.flat = true) (f' : e.flat = true) : eqV v u = D.eqv d e := by
  cases h <;> first | cases f | skip
  all_goals (cases h' <;> first | cases f' | skip)
  all_goals (unfold D.eqv D.pd; simp only [eqV, PyData.eqv])
theorem RA.flat {H0 Hd : Hp} : ∀ {vs : List V} {l : List D}, RA Γ H0 Hd vs l → l.all D.flat = true → vs.all flatV = true
  | _, _, .nil, _ => rfl
  | _, _, .cons h t, e => by
    rw [List.all_cons, Bool.and_eq_true] at e ⊢
    exact ⟨h.flat e.1, t.flat e.2⟩
theorem RA.inV {H0 Hd H0' Hd' : Hp} {u : V} {e : D} (h' : R Γ H0' Hd' u e) (f' : e.flat = true) : ∀ {vs : List V} {l : List D}, RA Γ H0 Hd vs l → l.all D.flat = true → inV u vs = l.any fun y => D.eqv y e
  | _, _, .nil, _ => rfl
  | _, _, .cons h t, f => by
    rw [List.all_cons, Bool.and_eq_true] at f
    show (_ || _) = _
    dsimp only
    rw [List.any_cons, h.eqf h' f.1 f', ← RA.inV h' f' t f.2]
    rfl
def D.mem (x : D) (l : List D) : Bool := l.any fun y => D.eqv y x
@[simp] def gIn : G2
  | x, .lst l, k => (x.flat = true ∧ l.all D.flat = true) ∧ k (.bl (x.mem l))
  | x, .tup l, k => (x.flat = true ∧ l.all D.flat = true) ∧ k (.bl (x.mem l))
  | _, _, _ => False
@[simp] def gNotIn : G2
  | x, .lst l, k => (x.flat = true ∧ l.all D.flat = true) ∧ k (.bl (!x.mem l))
  | x, .tup l, k => (x.flat = true ∧ l.all D.flat = true) ∧ k (.bl (!x.mem l))
  | _, _, _ => False
theorem RO.fl {v : V} {d : D} (h : RO Γ T v d) (f : d.flat = true) : R Γ T.H0 T.Hd v d := by
  cases h with
  | sh h => exact h
  | li _ _ => cases f
  | di _ _ => cases f
theorem os_in : OS Γ (rIn Γ.K false) gIn := ⟨fun {T x y a b Q Q'} ok rx ry h q => by
  cases b <;> first | exact h.elim | skip
  · obtain ⟨p, vs, rfl, hp, rp⟩ := ry.tup ok
    obtain ⟨⟨f1, f2⟩, h⟩ := h
    refine ⟨p, vs, rfl, .inr hp, (rx.fl f1).flat f1, rp.flat f2, ?_⟩
    rw [if_neg Bool.false_ne_true, rp.inV (rx.fl f1) f1 f2]
    exact gr_sc ok q (.bl _) h
  · obtain ⟨p, vs, rfl, hp, rp⟩ := ry.lst ok
    obtain ⟨⟨f1, f2⟩, h⟩ := h
    refine ⟨p, vs, rfl, .inl (SqL.of hp), (rx.fl f1).flat f1, rp.flat f2, ?_⟩
    rw [if_neg Bool.false_ne_true, rp.inV (rx.fl f1) f1 f2]
    exact gr_sc ok q (.bl _) h⟩
theorem os_notIn : OS Γ (rIn Γ.K true) gNotIn := ⟨fun {T x y a b Q Q'} ok rx ry h q => by
  cases b <;> first | exact h.elim | skip
  · obtain ⟨p, vs, rfl, hp, rp⟩ := ry.tup ok
    obtain ⟨⟨f1, f2⟩, h⟩ := h
    refine ⟨p, vs, rfl, .inr hp, (rx.fl f1).flat f1, rp.flat f2, ?_⟩
    rw [if_pos rfl, rp.inV (rx.fl f1) f1 f2]
    exact gr_sc ok q (.bl _) h
  · obtain ⟨p, vs, rfl, hp, rp⟩ := ry.lst ok
    obtain ⟨⟨f1, f2⟩, h⟩ := h
    refine ⟨p, vs, rfl, .inl (SqL.of hp), (rx.fl f1).flat f1, rp.flat f2, ?_⟩
    rw [if_pos rfl, rp.inV (rx.fl f1) f1 f2]
    exact gr_sc ok q (.bl _) h⟩
/-! ### items -/
def oK {α : Type} : Option α → (α → Prop) → Prop
  | some x, k => k x
  | none, _ => False
@[simp] theorem oK_some {α : Type} {x : α} {k : α → Prop} : oK (some x) k ↔ k x := Iff.rfl
@[simp] theorem oK_none {α : Type} {k : α → Prop} : oK (none : Option α) k ↔ False := Iff.rfl
theorem oK_of {α : Type} {o : Option α} {k : α → Prop} (h : oK o k) : ∃ x, o = some x ∧ k x := by
  cases o with
  | some x => exact ⟨x, rfl, h⟩
  | none => exact h.elim
theorem RA.atI {H0 Hd : Hp} {vs : List V} {l : List D} {i : Int} {d : D} (h : RA Γ H0 Hd vs l) (e : atI l i = some d) : ∃ v, L2.atI vs i = some v ∧ R Γ H0 Hd v d := by
  unfold L2.atI at e ⊢
  rw [h.len]
  cases z : ixN l.length i with
  | none => rw [z] at e; cases e
  | some j =>
    rw [z] at e
    exact h.get e
@[simp] def gIx : G2
  | .lst l, .int i, k => oK (atI l i) k
  | .tup l, .int i, k => oK (atI l i) k
  | .str z, .int i, k => z.length ≤ sizeLine ∧ oK (atI z.cps.toList i) fun c => k (.str ⟨#[c]⟩)
  | _, _, _ => False
theorem kix_seq {X : Cx} {K : PySem.W.Frag} (h : X.K = K) : IxR X (rIx K) := by subst h; exact ix_seq
theorem os_ix : OS Γ (rIx Γ.K) gIx := ⟨fun {T x y a b Q Q'} ok rx ry h q => by
  cases a <;> cases b <;> first | exact h.elim | skip
  · obtain rfl := rx.str
    obtain rfl := ry.int
    obtain ⟨h1, h⟩ := h
    obtain ⟨c, hc, h⟩ := oK_of h
    exact .inr (.inr ⟨_, _, c, rfl, rfl, h1, hc, gr_sc ok q (.str _) h⟩)
  · obtain ⟨p, vs, rfl, hp, rp⟩ := rx.tup ok
    obtain rfl := ry.int
    obtain ⟨c, hc, h⟩ := oK_of h
    obtain ⟨v, hv, r⟩ := rp.atI hc
    exact .inr (.inl ⟨p, vs, _, v, rfl, rfl, hp, hv, gr_sc ok q r h⟩)
  · obtain ⟨p, vs, rfl, hp, rp⟩ := rx.lst ok
    obtain rfl := ry.int
    obtain ⟨c, hc, h⟩ := oK_of h
    obtain ⟨v, hv, r⟩ := rp.atI hc
    exact .inl ⟨p, vs, _, v, rfl, rfl, SqL.of hp, hv, gr_sc ok q r h⟩⟩
end
end Vl

namespace Vl
open PySem PySem.Spec PyProof.Rows L2 Hl

section
variable {Γ : Gx} {X : Cx} {T : Wo} {σ : L2.St} {ρ : Vn}
theorem ARs.ext {T' : Wo} : ∀ {vs : List V} {as : List AI}, ARs Γ T σ vs as → Ext Γ T T' → ARs Γ T' σ vs as
  | _, _, .nil, _ => .nil
  | _, _, .cons h t, e => .cons (h.ext e) (t.ext e)
/-- what a new list's place is -/
theorem fresh_priv {p : Addr} (S : Sv Γ T σ ρ) (n : T.H p = none) : ∀ (j : Nat) (c : Cell), ρ[j]? = some c → c.priv = true → σ[j]? ≠ some (some (.ref p)) := by
  intro j c e pc z
  obtain ⟨s, e1, r⟩ := S.cell j c e
  rw [z] at e1
  cases e1
  cases c with
  | own l => obtain ⟨q, vs, e2, e3, _⟩ := r; cases e2; rw [n] at e3; cases e3
  | obj q c l => obtain ⟨C, dx, vs, e2, e3, _⟩ := r; cases e2; rw [n] at e3; cases e3
  | dic l => obtain ⟨q, vs, e2, e3, _⟩ := r; cases e2; rw [n] at e3; cases e3
  | pin q l => obtain ⟨vs, e2, _, e3, _⟩ := r; cases e2; rw [none_of_le S.ok.sF n] at e3; cases e3
  | _ => cases pc
/-! ### operators -/
@[simp] def wOp (g : G2) (wa wb : WO) : WE := fun ρ Q => wa ρ fun a ρ1 => wb ρ1 fun b ρ2 => rs1 ρ2 a fun x => rs1 ρ2 b fun y => g x y fun z => Q z ρ2
@[simp] def wOpF (g : F2) (wa wb : WO) : WF := fun ρ Q => wa ρ fun a ρ1 => wb ρ1 fun b ρ2 => rs1 ρ2 a fun x => rs1 ρ2 b fun y => g x y fun z => Q z ρ2
theorem se_op {r : R2} {g : G2} {ta tb : TE} {wa wb : WO} (o : OS Γ r g) (ha : SO Γ ta wa) (hb : SO Γ tb wb) : SE Γ (tOp r ta tb) (wOp g wa wb) := ⟨fun {T σ ρ Q Q'} S h q =>
  ha.h S h fun x T1 a ρ1 S1 e1 r1 q1 => hb.h S1 q1 fun y T2 b ρ2 S2 e2 r2 q2 => by
    obtain ⟨dx, rx, q2⟩ := S2.rs1 (r1.ext e2) q2
    obtain ⟨dy, ry, q2⟩ := S2.rs1 r2 q2
    exact o.h S2.ok rx ry q2 fun v T3 d g3 r3 q3 => q v T3 d ρ2 (S2.grow g3) ((e1.trans e2).trans g3.ext) r3 q3⟩
theorem sf_new {p : Addr} {vs : List V} {l : List D} {T1 : Wo} {ρ2 : Vn} {Q : List D → Vn → Prop} {Q' : VK} (S2 : Sv Γ T σ ρ2) (e : Ext Γ T1 T)
    (q : ∀ p vs T' l ρ', Sv Γ T' σ ρ' → Ext Γ T1 T' → T'.H p = some (.lst vs) → T'.F p = none → T'.H0 p = none → T'.Hd p = none → (∀ (j : Nat) (c : Cell), ρ'[j]? = some c → c.priv = true → σ[j]? ≠ some (some (.ref p))) → RA Γ T'.H0 T'.Hd vs l → Q l ρ' → Q' (.ref p) T'.H)
    (n : T.H p = none) (r : RA Γ T.H0 T.Hd vs l) (h : Q l ρ2) : Q' (.ref p) (upd T.H p (.lst vs)) := by
  have g := Gr.priv (o := .lst vs) S2.ok n
  exact q p vs ⟨T.F, T.H0, T.Hd, upd T.H p (.lst vs), T.P⟩ l ρ2 (S2.grow g) (e.trans g.ext) upd_same (none_of_le S2.ok.sF n) (none_of_le S2.ok.s0 n) (none_of_le S2.ok.sd n) (fresh_priv S2 n) r h
theorem sf_op {r : R2} {g : F2} {ta tb : TE} {wa wb : WO} (o : OSF Γ r g) (ha : SO Γ ta wa) (hb : SO Γ tb wb) : SF Γ (tOp r ta tb) (wOpF g wa wb) := ⟨fun {T σ ρ Q Q'} S h q =>
  ha.h S h fun x T1 a ρ1 S1 e1 r1 q1 => hb.h S1 q1 fun y T2 b ρ2 S2 e2 r2 q2 => by
    obtain ⟨dx, rx, q2⟩ := S2.rs1 (r1.ext e2) q2
    obtain ⟨dy, ry, q2⟩ := S2.rs1 r2 q2
    exact o.h S2.ok rx ry q2 fun p vs l n r3 q3 => sf_new S2 (e1.trans e2) q n r3 q3⟩
variable {a b : Expr} {ta tb : TE} {wa wb : WO} {pos : Pos}
theorem ve_op {op : Operator} {r : R2} {g : G2} (h : OpR X (binaryOp op) r) (o : OS Γ r g) (ha : VO Γ X a ta wa) (hb : VO Γ X b tb wb) : VE Γ X (.BinOp a op b pos) (tOp r ta tb) (wOp g wa wb) := ⟨pe_op h ha.pe hb.pe, se_op o ha.se hb.se⟩
theorem vf_op {op : Operator} {r : R2} {g : F2} (h : OpR X (binaryOp op) r) (o : OSF Γ r g) (ha : VO Γ X a ta wa) (hb : VO Γ X b tb wb) : VF Γ X (.BinOp a op b pos) (tOp r ta tb) (wOpF g wa wb) := ⟨pe_op h ha.pe hb.pe, sf_op o ha.se hb.se⟩
theorem ve_cmp {op : CmpOp} {r : R2} {g : G2} (h : OpR X (compareOp op) r) (o : OS Γ r g) (ha : VO Γ X a ta wa) (hb : VO Γ X b tb wb) (hm : behindInMarks op b = false) : VE Γ X (.Compare a [op] [b] pos) (tOp r ta tb) (wOp g wa wb) := ⟨pe_cmpR h ha.pe hb.pe hm, se_op o ha.se hb.se⟩
/-- a value as a test -/
@[simp] def cBl : D → (Bool → Prop) → Prop
  | .bl b, k => k b
  | _, _ => False
theorem cBl_of {d : D} {k : Bool → Prop} (h : cBl d k) : ∃ b, d = .bl b ∧ k b := by
  cases d with
  | bl b => exact ⟨b, rfl, h⟩
  | _ => exact h.elim
@[simp] def wTst (w : WE) : WT := fun ρ Q => w ρ fun d ρ1 => cBl d fun b => Q b ρ1
theorem st_tst {t : TE} {w : WE} (h : SE Γ t w) : ST Γ (tTest t) (wTst w) := ⟨fun {T σ ρ Q Q'} S hw q => h.h S hw fun v T1 d ρ1 S1 e1 r1 q1 => by
  obtain ⟨b, rfl, q1⟩ := cBl_of q1
  cases r1
  exact ⟨b, rfl, q b T1 ρ1 S1 e1 q1⟩⟩
theorem vt_cmp {op : CmpOp} {r : R2} {g : G2} (h : OpR X (compareOp op) r) (o : OS Γ r g) (ha : VO Γ X a ta wa) (hb : VO Γ X b tb wb) (hm : behindInMarks op b = false) : VT Γ X (.Compare a [op] [b] pos) (tTest (tOp r ta tb)) (wTst (wOp g wa wb)) := ⟨pt_cmpR h ha.pe hb.pe hm, st_tst (se_op o ha.se hb.se)⟩
/-- a < b < c -/
@[simp] def wChain (g g' : G2) (wa wb wc : WE) : WE := fun ρ Q => wa ρ fun x ρ1 => wb ρ1 fun y ρ2 => g x y fun z => cBl z fun k => (k = true → wc ρ2 fun u ρ3 => g' y u fun z' => Q z' ρ3) ∧ (k = false → Q (.bl false) ρ2)
theorem se_chain {r r' : R2} {g g' : G2} {ta tb tc : TE} {wa wb wc : WE} (o : OS Γ r g) (o' : OS Γ r' g') (ha : SE Γ ta wa) (hb : SE Γ tb wb) (hc : SE Γ tc wc) : SE Γ (tChain r r' ta tb tc) (wChain g g' wa wb wc) := ⟨fun {T σ ρ Q Q'} S h q =>
  ha.h S h fun x T1 dx ρ1 S1 e1 r1 q1 => hb.h S1 q1 fun y T2 dy ρ2 S2 e2 r2 q2 => o.h S2.ok (.sh (r1.ext e2)) (.sh r2) q2 fun z T3 dz g3 r3 q3 => by
    obtain ⟨k, rfl, q3⟩ := cBl_of q3
    cases r3
    refine ⟨k, rfl, ?_⟩
    have S3 := S2.grow g3
    have e3 := (e1.trans e2).trans g3.ext (Γ := Γ)
    cases k with
    | true => exact iteT (hc.h S3 (q3.1 rfl) fun u T4 du ρ4 S4 e4 r4 q4 => o'.h S4.ok (.sh ((r2.ext g3.ext).ext e4)) (.sh r4) q4 fun v T5 d g5 r5 q5 => q v T5 d ρ4 (S4.grow g5) ((e3.trans e4).trans g5.ext) r5 q5)
    | false => exact iteF (q (.bl false) T3 (.bl false) ρ2 S3 e3 (.bl false) (q3.2 rfl))⟩
theorem ve_chain {op op' : CmpOp} {r r' : R2} {g g' : G2} {c : Expr} {tc : TE} {wa wb wc : WE} (h : OpR X (compareOp op) r) (h' : OpR X (compareOp op') r') (o : OS Γ r g) (o' : OS Γ r' g') (ha : VE Γ X a ta wa) (hb : VE Γ X b tb wb) (hc : VE Γ X c tc wc)
    (hm : lastMarks [op, op'] [b, c] = false := by with_unfolding_all rfl) : VE Γ X (.Compare a [op, op'] [b, c] pos) (tChain r r' ta tb tc) (wChain g g' wa wb wc) := ⟨pe_chain h h' ha.pe hb.pe hc.pe hm, se_chain o o' ha.se hb.se hc.se⟩
theorem vt_chain {op op' : CmpOp} {r r' : R2} {g g' : G2} {c : Expr} {tc : TE} {wa wb wc : WE} (h : OpR X (compareOp op) r) (h' : OpR X (compareOp op') r') (o : OS Γ r g) (o' : OS Γ r' g') (ha : VE Γ X a ta wa) (hb : VE Γ X b tb wb) (hc : VE Γ X c tc wc)
    (hm : lastMarks [op, op'] [b, c] = false := by with_unfolding_all rfl) : VT Γ X (.Compare a [op, op'] [b, c] pos) (tTest (tChain r r' ta tb tc)) (wTst (wChain g g' wa wb wc)) := ⟨pt_chain h h' ha.pe hb.pe hc.pe hm, st_tst (se_chain o o' ha.se hb.se hc.se)⟩
/-! ### unary -/
@[simp] def gNeg : G1
  | .int i, k => k (.int (-i))
  | _, _ => False
@[simp] def wUn (g : G1) (w : WE) : WE := fun ρ Q => w ρ fun d ρ1 => g d fun z => Q z ρ1
theorem ve_neg {w : WE} (ha : VE Γ X a ta w) : VE Γ X (.UnaryOp .USub a pos) (tUn (rU fun i => .int (-i)) ta) (wUn gNeg w) := ⟨pe_un un_neg ha.pe, ⟨fun {T σ ρ Q Q'} S h q => ha.se.h S h fun x T1 d ρ1 S1 e1 r1 q1 => by
  cases d <;> first | exact q1.elim | skip
  cases r1
  exact ⟨_, rfl, q _ T1 _ ρ1 S1 e1 (.int _) q1⟩⟩⟩
@[simp] def gNot : G1
  | .bl i, k => k (.bl (!i))
  | _, _ => False
theorem ve_not {w : WE} (ha : VE Γ X a ta w) : VE Γ X (.UnaryOp .Not a pos) (tNotV ta) (wUn gNot w) := ⟨pe_not ha.pe, ⟨fun {T σ ρ Q Q'} S h q => ha.se.h S h fun x T1 d ρ1 S1 e1 r1 q1 => by
  cases d <;> first | exact q1.elim | skip
  cases r1
  exact ⟨_, rfl, q _ T1 _ ρ1 S1 e1 (.bl _) q1⟩⟩⟩
/-! ### tests -/
@[simp] def wAnd (w u : WT) : WT := fun ρ Q => w ρ fun c ρ1 => (c = true → u ρ1 Q) ∧ (c = false → Q false ρ1)
@[simp] def wOr (w u : WT) : WT := fun ρ Q => w ρ fun c ρ1 => (c = true → Q true ρ1) ∧ (c = false → u ρ1 Q)
@[simp] def wNot (w : WT) : WT := fun ρ Q => w ρ fun c ρ1 => Q (!c) ρ1
section
variable {t u : TT} {w z : WT} {e : Expr} {es : List Expr}
theorem st_and (h : ST Γ t w) (h' : ST Γ u z) : ST Γ (tAnd t u) (wAnd w z) := ⟨fun {T σ ρ Q Q'} S hw q => h.h S hw fun c T1 ρ1 S1 e1 q1 => by
  cases c with
  | true => exact iteT (h'.h S1 (q1.1 rfl) fun b T2 ρ2 S2 e2 q2 => q b T2 ρ2 S2 (e1.trans e2) q2)
  | false => exact iteF (q false T1 ρ1 S1 e1 (q1.2 rfl))⟩
theorem st_or (h : ST Γ t w) (h' : ST Γ u z) : ST Γ (tOr t u) (wOr w z) := ⟨fun {T σ ρ Q Q'} S hw q => h.h S hw fun c T1 ρ1 S1 e1 q1 => by
  cases c with
  | true => exact iteT (q true T1 ρ1 S1 e1 (q1.1 rfl))
  | false => exact iteF (h'.h S1 (q1.2 rfl) fun b T2 ρ2 S2 e2 q2 => q b T2 ρ2 S2 (e1.trans e2) q2)⟩
theorem st_not (h : ST Γ t w) : ST Γ (tNot t) (wNot w) := ⟨fun {T σ ρ Q Q'} S hw q => h.h S hw fun c T1 ρ1 S1 e1 q1 => q _ T1 ρ1 S1 e1 q1⟩
theorem VW.vt (h : VW Γ X e t w) : VT Γ X e t w := ⟨h.pe.pt, h.se⟩
theorem vt_not (h : VT Γ X e t w) : VT Γ X (.UnaryOp .Not e pos) (tNot t) (wNot w) := ⟨pt_not h.pe, st_not h.se⟩
/-- any value's truth -/
@[simp] def cTru : D → (Bool → Prop) → Prop
  | .non, k => k false
  | .bl b, k => k b
  | .int i, k => k (i != 0)
  | .tup l, k => k (!l.isEmpty)
  | .lst l, k => k (!l.isEmpty)
  | .str z, k => z.length ≤ sizeLine ∧ k ((z.length : Int) != 0)
  | _, _ => False
@[simp] def wTru (w : WO) : WT := fun ρ Q => w ρ fun a ρ1 => rs1 ρ1 a fun d => cTru d fun b => Q b ρ1
theorem isEmpty_len {α β : Type} : ∀ {l : List α} {m : List β}, l.length = m.length → l.isEmpty = m.isEmpty
  | [], [], _ => rfl
  | _ :: _, _ :: _, _ => rfl
theorem vt_tru {te : TE} {we : WO} (hK : X.K = Γ.K) (h : VO Γ X e te we) (he : ∀ whole, isTrue e X.env whole = (do let v ← whole; standAt e.pos; holding [v] (truthy v)) := by intro _; rfl) :
    VT Γ X e (fun σ H Q => te σ H fun x H' => ∃ k, TruV Γ.K x H' k ∧ Q k H') (wTru we) := ⟨by rw [← hK]; exact pt_truth h.pe he, ⟨fun {T σ ρ Q Q'} S hw q => h.se.h S hw fun v T1 a ρ1 S1 e1 r1 q1 => by
  obtain ⟨d, r, q1⟩ := S1.rs1 r1 q1
  cases d with
  | non => cases r.non; exact ⟨_, rfl, q _ T1 ρ1 S1 e1 q1⟩
  | bl b => cases r.bl; exact ⟨_, rfl, q _ T1 ρ1 S1 e1 q1⟩
  | int b => cases r.int; exact ⟨_, rfl, q _ T1 ρ1 S1 e1 q1⟩
  | str b => cases r.str; exact ⟨_, ⟨q1.1, rfl⟩, q _ T1 ρ1 S1 e1 q1.2⟩
  | tup l =>
    obtain ⟨p, vs, rfl, hp, rp⟩ := r.tup S1.ok
    refine ⟨!l.isEmpty, .inr (.inl ⟨vs, hp, by rw [isEmpty_len rp.len]⟩), q _ T1 ρ1 S1 e1 q1⟩
  | lst l =>
    obtain ⟨p, vs, rfl, hp, rp⟩ := r.lst S1.ok
    refine ⟨!l.isEmpty, .inl ⟨vs, SqL.of hp, by rw [isEmpty_len rp.len]⟩, q _ T1 ρ1 S1 e1 q1⟩
  | _ => exact q1.elim⟩⟩
/-- and, or of values, all but the last True or False; an if-expression -/
@[simp] def wAndV (w u : WE) : WE := fun ρ Q => w ρ fun d ρ1 => cBl d fun c => (c = true → u ρ1 Q) ∧ (c = false → Q (.bl false) ρ1)
@[simp] def wOrV (w u : WE) : WE := fun ρ Q => w ρ fun d ρ1 => cBl d fun c => (c = true → Q (.bl true) ρ1) ∧ (c = false → u ρ1 Q)
@[simp] def wIfE (c : WT) (w u : WE) : WE := fun ρ Q => c ρ fun c ρ1 => (c = true → w ρ1 Q) ∧ (c = false → u ρ1 Q)
theorem se_andV {t u : TE} {w z : WE} (h : SE Γ t w) (h' : SE Γ u z) : SE Γ (tAndV t u) (wAndV w z) := ⟨fun {T σ ρ Q Q'} S hw q => h.h S hw fun v T1 d ρ1 S1 e1 r1 q1 => by
  obtain ⟨c, rfl, q1⟩ := cBl_of q1
  cases r1
  refine ⟨c, rfl, ?_⟩
  cases c with
  | true => exact iteT (h'.h S1 (q1.1 rfl) fun v T2 d ρ2 S2 e2 r2 q2 => q v T2 d ρ2 S2 (e1.trans e2) r2 q2)
  | false => exact iteF (q _ T1 _ ρ1 S1 e1 (.bl false) (q1.2 rfl))⟩
theorem se_orV {t u : TE} {w z : WE} (h : SE Γ t w) (h' : SE Γ u z) : SE Γ (tOrV t u) (wOrV w z) := ⟨fun {T σ ρ Q Q'} S hw q => h.h S hw fun v T1 d ρ1 S1 e1 r1 q1 => by
  obtain ⟨c, rfl, q1⟩ := cBl_of q1
  cases r1
  refine ⟨c, rfl, ?_⟩
  cases c with
  | true => exact iteT (q _ T1 _ ρ1 S1 e1 (.bl true) (q1.1 rfl))
  | false => exact iteF (h'.h S1 (q1.2 rfl) fun v T2 d ρ2 S2 e2 r2 q2 => q v T2 d ρ2 S2 (e1.trans e2) r2 q2)⟩
theorem se_ifE {t : TT} {ta tb : TE} {w : WT} {wa wb : WE} (h : ST Γ t w) (ha : SE Γ ta wa) (hb : SE Γ tb wb) : SE Γ (tIf t ta tb) (wIfE w wa wb) := ⟨fun {T σ ρ Q Q'} S hw q => h.h S hw fun c T1 ρ1 S1 e1 q1 => by
  cases c with
  | true => exact iteT (ha.h S1 (q1.1 rfl) fun v T2 d ρ2 S2 e2 r2 q2 => q v T2 d ρ2 S2 (e1.trans e2) r2 q2)
  | false => exact iteF (hb.h S1 (q1.2 rfl) fun v T2 d ρ2 S2 e2 r2 q2 => q v T2 d ρ2 S2 (e1.trans e2) r2 q2)⟩
theorem ve_ifE {c x y : Expr} {t : TT} {ta tb : TE} {w : WT} {wa wb : WE} (h : VT Γ X c t w) (ha : VE Γ X x ta wa) (hb : VE Γ X y tb wb) : VE Γ X (.IfExp c x y pos) (tIf t ta tb) (wIfE w wa wb) := ⟨pe_ifExp h.pe ha.pe hb.pe, se_ifE h.se ha.se hb.se⟩
end
/-! ### arguments, displays -/
@[simp] def wNil : WA := fun ρ Q => Q [] ρ
@[simp] def wCons (w : WO) (u : WA) : WA := fun ρ Q => w ρ fun a ρ1 => u ρ1 fun as ρ2 => Q (a :: as) ρ2
section
variable {e : Expr} {es : List Expr} {te : TE} {t : TA} {we : WO} {w : WA}
theorem va_nil : VA Γ X [] tNil wNil := ⟨pa_nil, ⟨fun {T σ ρ Q Q'} S h q => q [] T [] ρ S .refl .nil h⟩⟩
theorem va_cons (h : VO Γ X e te we) (h' : VA Γ X es t w) (hs : starEach (e :: es) X.env = (false, eval e X.env) :: starEach es X.env := by rfl) : VA Γ X (e :: es) (tCons te t) (wCons we w) := ⟨pa_cons h.pe h'.pe hs, ⟨fun {T σ ρ Q Q'} S hw q =>
  h.se.h S hw fun v T1 a ρ1 S1 e1 r1 q1 => h'.se.h S1 q1 fun vs T2 as ρ2 S2 e2 r2 q2 => q (v :: vs) T2 (a :: as) ρ2 S2 (e1.trans e2) (.cons (r1.ext e2) r2) q2⟩⟩
/-- all of them shared -/
@[simp] def shN : List AI → (List D → Prop) → Prop
  | [], k => k []
  | .d d :: r, k => shN r fun ds => k (d :: ds)
  | .sl _ :: _, _ => False
theorem shN_of {T : Wo} {σ : L2.St} : ∀ {vs : List V} {as : List AI} {k : List D → Prop}, ARs Γ T σ vs as → shN as k → ∃ ds, RA Γ T.H0 T.Hd vs ds ∧ k ds
  | _, _, _, .nil, h => ⟨[], .nil, h⟩
  | _, .d d :: _, _, .cons a r, h => by
    obtain ⟨ds, r2, h⟩ := shN_of r h
    exact ⟨d :: ds, .cons a r2, h⟩
@[simp] def wTup (w : WA) : WE := fun ρ Q => w ρ fun as ρ1 => shN as fun ds => ds.length ≤ sizeLine ∧ Q (.tup ds) ρ1
@[simp] def wLst (w : WA) : WF := fun ρ Q => w ρ fun as ρ1 => shN as fun ds => ds.length ≤ sizeLine ∧ Q ds ρ1
theorem ve_tup {x1} (h : VA Γ X es t w) : VE Γ X (.Tuple es x1 pos) (tTup t) (wTup w) := ⟨pe_tup h.pe, ⟨fun {T σ ρ Q Q'} S hw q => h.se.h S hw fun vs T1 as ρ1 S1 e1 r1 q1 => by
  obtain ⟨ds, r, hz, q1⟩ := shN_of r1 q1
  rw [← r.len] at hz
  refine ⟨hz, fun p n => ?_⟩
  have g := Gr.new (o := .tup vs) S1.ok n
  exact q _ _ _ ρ1 (S1.grow g) (e1.trans g.ext) (r_tup S1.ok n r) q1⟩⟩
theorem vf_lst (h : VA Γ X es t w) : VF Γ X (.List es pos) (tLst t) (wLst w) := ⟨pe_lst h.pe, ⟨fun {T σ ρ Q Q'} S hw q => h.se.h S hw fun vs T1 as ρ1 S1 e1 r1 q1 => by
  obtain ⟨ds, r, hz, q1⟩ := shN_of r1 q1
  rw [← r.len] at hz
  exact ⟨hz, fun p n => sf_new S1 e1 q n r q1⟩⟩⟩
/-- a new list is shared -/
@[simp] def wFz (w : WF) : WE := fun ρ Q => w ρ fun l ρ1 => Q (.lst l) ρ1
theorem Sv.freezeNew {p : Addr} {o : HO} (S : Sv Γ T σ ρ) (hp : T.H p = some o) (nF : T.F p = none) (n0 : T.H0 p = none) (nd : T.Hd p = none) (hn : ∀ (j : Nat) (c : Cell), ρ[j]? = some c → c.priv = true → σ[j]? ≠ some (some (.ref p))) :
    Sv Γ ⟨T.F, upd T.H0 p o, T.Hd, T.H, T.P⟩ σ ρ ∧ Ext Γ T ⟨T.F, upd T.H0 p o, T.Hd, T.H, T.P⟩ := by
  have E : Ext Γ T ⟨T.F, upd T.H0 p o, T.Hd, T.H, T.P⟩ := ⟨rfl, rfl, same_new n0, fun _ h => h⟩
  refine ⟨⟨⟨S.ok.sF, fun b x e => ?_, S.ok.sd, fun {b x} e => ?_, S.ok.Fd, fun {b x} e => ?_⟩, S.len, fun i c e => ?_, S.dist⟩, E⟩
  · dsimp only at e ⊢
    by_cases hb : b = p
    · subst hb; rw [upd_same] at e; cases e; exact hp
    · rw [upd_ne hb] at e; exact S.ok.s0 _ _ e
  · dsimp only at e ⊢
    have hb : b ≠ p := fun z => by rw [z, nF] at e; cases e
    rw [upd_ne hb]; exact S.ok.F0 e
  · dsimp only at e ⊢
    by_cases hb : b = p
    · subst hb; exact nd
    · rw [upd_ne hb] at e; exact S.ok.zd e
  · obtain ⟨s, e1, r⟩ := S.cell i c e
    refine ⟨s, e1, ?_⟩
    have ne : ∀ q, c.priv = true → s = some (.ref q) → q ≠ p := fun q pc z e2 => hn i c e pc (by rw [e1, z, e2])
    cases c with
    | no => trivial
    | val d => obtain ⟨v, e2, r⟩ := r; exact ⟨v, e2, R.ext E r⟩
    | own l =>
      obtain ⟨q, us, e2, e3, r, n1, n2, n3⟩ := r
      exact ⟨q, us, e2, e3, RA.ext E r, n1, (by dsimp only; rw [upd_ne (ne q rfl e2)]; exact n2), n3⟩
    | pin q l => obtain ⟨us, e2, e0, e3, r⟩ := r; exact ⟨us, e2, e0, e3, RA.ext E r⟩
    | obj q c fs =>
      obtain ⟨C, dx, vf, e2, e3, m, cl, na, r, n1, n2, n3⟩ := r
      exact ⟨C, dx, vf, e2, e3, m, cl, na, r.mono E.s0 E.da, n1, (by dsimp only; rw [upd_ne (ne q rfl e2)]; exact n2), n3⟩
    | dic l =>
      obtain ⟨q, us, e2, e3, r, n1, n2, n3⟩ := r
      exact ⟨q, us, e2, e3, r.mono E.s0 E.da, n1, (by dsimp only; rw [upd_ne (ne q rfl e2)]; exact n2), n3⟩
theorem se_fz {t : TE} {w : WF} (h : SF Γ t w) : SE Γ t (wFz w) := ⟨fun {T σ ρ Q Q'} S hw q => h.h S hw fun p vs T1 l ρ1 S1 e1 hp nF n0 nd hn r q1 => by
  obtain ⟨S2, E⟩ := S1.freezeNew hp nF n0 nd hn
  exact q (.ref p) ⟨T1.F, upd T1.H0 p (.lst vs), T1.Hd, T1.H, T1.P⟩ (.lst l) ρ1 S2 (e1.trans E) (.lst upd_same (RA.ext E r)) q1⟩
theorem ve_fz {t : TE} {w : WF} (h : VF Γ X e t w) : VE Γ X e t (wFz w) := ⟨h.pe, se_fz h.se⟩
/-! ### built-in functions -/
@[simp] def wCB (g : GN) (w : WA) : WE := fun ρ Q => w ρ fun as ρ1 => rsN ρ1 as fun ds => g ds fun z => Q z ρ1
@[simp] def wCBF (g : FN) (w : WA) : WF := fun ρ Q => w ρ fun as ρ1 => rsN ρ1 as fun ds => g ds fun z => Q z ρ1
variable {r : List V → Hp → VK → Prop} {x : Str} {p : Pos} {id T : String}
theorem se_cb {g : GN} (o : CS Γ r g) (h : SA Γ t w) : SE Γ (tCB r t) (wCB g w) := ⟨fun {T σ ρ Q Q'} S hw q => h.h S hw fun vs T1 as ρ1 S1 e1 r1 q1 => by
  obtain ⟨ds, rd, q1⟩ := S1.rsN r1 q1
  exact o.h S1.ok rd q1 fun v T2 d g2 r2 q2 => q v T2 d ρ1 (S1.grow g2) (e1.trans g2.ext) r2 q2⟩
theorem sf_cb {g : FN} (o : CSF Γ r g) (h : SA Γ t w) : SF Γ (tCB r t) (wCBF g w) := ⟨fun {T σ ρ Q Q'} S hw q => h.h S hw fun vs T1 as ρ1 S1 e1 r1 q1 => by
  obtain ⟨ds, rd, q1⟩ := S1.rsN r1 q1
  exact o.h S1.ok rd q1 fun p vs l n r2 q2 => sf_new S1 e1 q n r2 q2⟩
theorem ve_cb {g : GN} (hc : CallR X (.builtin id) r) (o : CS Γ r g) (hg : Gl X x) (hm : X.mg x = none) (hv : bootBuiltins x = some (.builtin id)) (ha : VA Γ X (e :: es) t w) (hn : x ≠ "__name__" := by decide) (hdb : (x == ("__debug__" : Str)) = false := by decide)
    (he : starEach (e :: es) X.env = (false, eval e X.env) :: starEach es X.env := by rfl) (hpl : (backTo pos (starEach es X.env)).any (·.1) = false := by rfl) : VE Γ X (.Call (.Name x p) (e :: es) [] pos) (tCB r t) (wCB g w) := ⟨pe_callB hc hg hm hv ha.pe hn hdb he hpl, se_cb o ha.se⟩
theorem vf_cb {g : FN} (hc : CallR X (.builtin id) r) (o : CSF Γ r g) (hg : Gl X x) (hm : X.mg x = none) (hv : bootBuiltins x = some (.builtin id)) (ha : VA Γ X (e :: es) t w) (hn : x ≠ "__name__" := by decide) (hdb : (x == ("__debug__" : Str)) = false := by decide)
    (he : starEach (e :: es) X.env = (false, eval e X.env) :: starEach es X.env := by rfl) (hpl : (backTo pos (starEach es X.env)).any (·.1) = false := by rfl) : VF Γ X (.Call (.Name x p) (e :: es) [] pos) (tCB r t) (wCBF g w) := ⟨pe_callB hc hg hm hv ha.pe hn hdb he hpl, sf_cb o ha.se⟩
theorem ve_ct {g : GN} (hc : CallR X (.type T) r) (o : CS Γ r g) (hg : Gl X x) (hm : X.mg x = none) (hv : bootBuiltins x = some (.type T)) (ha : VA Γ X (e :: es) t w) (hn : x ≠ "__name__" := by decide) (hdb : (x == ("__debug__" : Str)) = false := by decide)
    (he : starEach (e :: es) X.env = (false, eval e X.env) :: starEach es X.env := by rfl) (hpl : (backTo pos (starEach es X.env)).any (·.1) = false := by rfl) : VE Γ X (.Call (.Name x p) (e :: es) [] pos) (tCB r t) (wCB g w) := ⟨pe_callTy hc hg hm hv ha.pe hn hdb he hpl, se_cb o ha.se⟩
theorem vf_ct {g : FN} (hc : CallR X (.type T) r) (o : CSF Γ r g) (hg : Gl X x) (hm : X.mg x = none) (hv : bootBuiltins x = some (.type T)) (ha : VA Γ X (e :: es) t w) (hn : x ≠ "__name__" := by decide) (hdb : (x == ("__debug__" : Str)) = false := by decide)
    (he : starEach (e :: es) X.env = (false, eval e X.env) :: starEach es X.env := by rfl) (hpl : (backTo pos (starEach es X.env)).any (·.1) = false := by rfl) : VF Γ X (.Call (.Name x p) (e :: es) [] pos) (tCB r t) (wCBF g w) := ⟨pe_callTy hc hg hm hv ha.pe hn hdb he hpl, sf_cb o ha.se⟩
/-! ### items, fields -/
theorem ve_ix {i : Expr} {ti : TE} {wi : WO} (hK : X.K = Γ.K) (he : VO Γ X e te we) (hi : VO Γ X i ti wi) (hp : PlainIx i) : VE Γ X (.Subscript e i pos) (tOp (rIx Γ.K) te ti) (wOp gIx we wi) := ⟨pe_ix (kix_seq hK) he.pe hi.pe hp, se_op os_ix he.se hi.se⟩
@[simp] def wFld (f : Str) (w : WE) : WE := fun ρ Q => w ρ fun d ρ1 => match d with
  | .obj _ fs => oK (fs.lookup f) fun x => Q x ρ1
  | _ => False
theorem ve_fld {f : Str} {te : TE} {w : WE} (hK : X.K = Γ.K) (h : VE Γ X e te w) (hb : attributeBase e f X.env (eval e X.env) = eval e X.env) : VE Γ X (.Attribute e f pos) (tFld Γ.K te f) (wFld f w) := ⟨kpe_fld hK h.pe hb, ⟨fun {T σ ρ Q Q'} S hw q => h.se.h S hw fun v T1 d ρ1 S1 e1 r1 q1 => by
  cases d <;> first | exact q1.elim | skip
  obtain ⟨x, hx, q1⟩ := oK_of q1
  cases r1 with
  | obj h0 m cl na rf =>
    obtain ⟨v, hv, r⟩ := rf.lookup hx
    exact ⟨_, _, _, _, v, rfl, S1.ok.s0 _ _ h0, cl, na _ _ hv, hv, q v T1 x ρ1 S1 e1 r q1⟩⟩⟩
end
end
end Vl

namespace Vl
open PySem PySem.Spec PyProof.Rows L2 Hl

section
variable {Γ : Gx} {X : Cx} {T : Wo} {σ : L2.St} {ρ : Vn}
/-! ### one's own list is changed -/
theorem Sv.put {i : Nat} {p : Addr} {o' : HO} {c c' : Cell} (S : Sv Γ T σ ρ) (hi : ρ[i]? = some c) (pc : c.priv = true) (hs : σ[i]? = some (some (.ref p))) (nF : T.F p = none) (n0 : T.H0 p = none) (nd : T.Hd p = none)
    (r : ∀ T' : Wo, T'.F = T.F → T'.H0 = T.H0 → T'.Hd = T.Hd → T'.H p = some o' → CellR Γ T' (some (.ref p)) c') (hr : c'.priv = true) : Sv Γ ⟨T.F, T.H0, T.Hd, upd T.H p o', T.P⟩ σ (ρ.set i c') ∧ Ext Γ T ⟨T.F, T.H0, T.Hd, upd T.H p o', T.P⟩ := by
  have ne : ∀ {A : Hp} {b x}, A p = none → A b = some x → b ≠ p := fun hn e z => by rw [z, hn] at e; cases e
  refine ⟨⟨⟨fun b x e => ?_, fun b x e => ?_, fun b x e => ?_, S.ok.F0, S.ok.Fd, S.ok.zd⟩, by rw [List.length_set, S.len], fun j c1 e => ?_, fun j k q c1 c2 e1 e2 p1 p2 e3 e4 => ?_⟩, ⟨rfl, rfl, Same.refl _, fun _ h => h⟩⟩
  · dsimp only at e ⊢; rw [upd_ne (ne nF e)]; exact S.ok.sF _ _ e
  · dsimp only at e ⊢; rw [upd_ne (ne n0 e)]; exact S.ok.s0 _ _ e
  · dsimp only at e ⊢; rw [upd_ne (ne nd e)]; exact S.ok.sd _ _ e
  · rcases set_at e with ⟨rfl, hl, rfl⟩ | ⟨hj, e⟩
    · exact ⟨_, hs, r _ rfl rfl rfl upd_same⟩
    · obtain ⟨s, e1, r1⟩ := S.cell j c1 e
      refine ⟨s, e1, ?_⟩
      have nq : ∀ q, c1.priv = true → s = some (.ref q) → q ≠ p := fun q pq z z2 => hj (S.dist i j p c c1 hi e pc pq hs (by rw [e1, z, z2]))
      cases c1 with
      | no => trivial
      | val d => exact r1
      | own l => obtain ⟨q, us, e2, e3, r⟩ := r1; exact ⟨q, us, e2, (by dsimp only; rw [upd_ne (nq q rfl e2)]; exact e3), r⟩
      | pin q l => exact r1
      | obj q c fs => obtain ⟨C, dx, vf, e2, e3, r⟩ := r1; exact ⟨C, dx, vf, e2, (by dsimp only; rw [upd_ne (nq q rfl e2)]; exact e3), r⟩
      | dic l => obtain ⟨q, us, e2, e3, r⟩ := r1; exact ⟨q, us, e2, (by dsimp only; rw [upd_ne (nq q rfl e2)]; exact e3), r⟩
  · have f : ∀ {j : Nat} {c1 : Cell}, (ρ.set i c')[j]? = some c1 → c1.priv = true → ∃ c', ρ[j]? = some c' ∧ c'.priv = true := fun {j c1} e pq => by
      rcases set_at e with ⟨rfl, hl, rfl⟩ | ⟨hj, e⟩
      · exact ⟨c, hi, pc⟩
      · exact ⟨_, e, pq⟩
    obtain ⟨c1', f1, q1⟩ := f e1 p1
    obtain ⟨c2', f2, q2⟩ := f e2 p2
    exact S.dist j k q _ _ f1 f2 q1 q2 e3 e4
theorem Sv.ownAt {i : Nat} {k : List D → Prop} (S : Sv Γ T σ ρ) (h : cOwn (ρ.getD i .no) k) : ∃ p vs l, ρ[i]? = some (.own l) ∧ σ[i]? = some (some (.ref p)) ∧ T.H p = some (.lst vs) ∧ RA Γ T.H0 T.Hd vs l ∧ T.F p = none ∧ T.H0 p = none ∧ T.Hd p = none ∧ k l := by
  obtain ⟨l, e, h⟩ := cOwn_of h
  have e' := getD_of e (by simp)
  obtain ⟨s, e1, p, vs, e2, hp, r, n1, n2, n3⟩ := S.cell i _ e'
  exact ⟨p, vs, l, e', by rw [e1, e2], hp, r, n1, n2, n3, h⟩
theorem Sv.putL {i : Nat} {p : Addr} {vs : List V} {l l' : List D} (S : Sv Γ T σ ρ) (hi : ρ[i]? = some (.own l)) (hs : σ[i]? = some (some (.ref p))) (nF : T.F p = none) (n0 : T.H0 p = none) (nd : T.Hd p = none) (r : RA Γ T.H0 T.Hd vs l') :
    Sv Γ ⟨T.F, T.H0, T.Hd, upd T.H p (.lst vs), T.P⟩ σ (ρ.set i (.own l')) ∧ Ext Γ T ⟨T.F, T.H0, T.Hd, upd T.H p (.lst vs), T.P⟩ :=
  S.put hi rfl hs nF n0 nd (fun T' h1 h2 h3 h4 => ⟨p, vs, rfl, h4, by rw [h2, h3]; exact r, by rw [h1]; exact nF, by rw [h2]; exact n0, by rw [h3]; exact nd⟩) rfl
variable {i : Nat} {e : Expr} {te : TE} {we : WE}
@[simp] def wApp (i : Nat) (w : WE) : WE := fun ρ Q => cOwn (ρ.getD i .no) fun _ => w ρ fun d ρ1 => cOwn (ρ1.getD i .no) fun l => l.length < sizeLine ∧ Q .non (ρ1.set i (.own (l ++ [d])))
theorem se_app (h : SE Γ te we) : SE Γ (tBM Γ.K "list" rAppend (tVar i) (tCons te tNil)) (wApp i we) := ⟨fun {T σ ρ Q Q'} S hw q => by
  obtain ⟨p, vs, l, hi, hs, hp, r, nF, n0, nd, hw⟩ := S.ownAt hw
  refine ⟨_, hs, .inl ⟨rfl, vs, SqL.of hp⟩, h.h S hw fun v T1 d ρ1 S1 e1 r1 q1 => ?_⟩
  obtain ⟨p', vs', l', hi, hs', hp, r, nF, n0, nd, hz, hw⟩ := S1.ownAt q1
  rw [hs] at hs'; cases hs'
  obtain ⟨S2, e2⟩ := S1.putL (l' := l' ++ [d]) hi hs nF n0 nd (r.app (.cons r1 .nil))
  exact ⟨_, _, _, rfl, rfl, hp, by rw [r.len]; exact hz, q .non _ .non _ S2 (e1.trans e2) .non hw⟩⟩
@[simp] def wExt (i : Nat) (w : WO) : WE := fun ρ Q => cOwn (ρ.getD i .no) fun _ => w ρ fun a ρ1 => rs1 ρ1 a fun d => cOwn (ρ1.getD i .no) fun l => match d with
  | .lst m => l.length + m.length ≤ sizeLine ∧ Q .non (ρ1.set i (.own (l ++ m)))
  | _ => False
theorem se_ext {we : WO} (h : SO Γ te we) : SE Γ (tBM Γ.K "list" rExtend (tVar i) (tCons te tNil)) (wExt i we) := ⟨fun {T σ ρ Q Q'} S hw q => by
  obtain ⟨p, vs, l, hi, hs, hp, r, nF, n0, nd, hw⟩ := S.ownAt hw
  refine ⟨_, hs, .inl ⟨rfl, vs, SqL.of hp⟩, h.h S hw fun v T1 a ρ1 S1 e1 r1 q1 => ?_⟩
  obtain ⟨d, rd, q1⟩ := S1.rs1 r1 q1
  obtain ⟨p', vs', l', hi, hs', hp, r, nF, n0, nd, hw⟩ := S1.ownAt q1
  rw [hs] at hs'; cases hs'
  cases d <;> first | exact hw.elim | skip
  obtain ⟨b, us, rfl, hb, rb⟩ := rd.lst S1.ok
  obtain ⟨S2, e2⟩ := S1.putL hi hs nF n0 nd (r.app rb)
  exact ⟨_, _, _, _, rfl, rfl, hp, hb, by rw [r.len, rb.len]; exact hw.1, q .non _ .non _ S2 (e1.trans e2) .non hw.2⟩⟩
@[simp] def wPop (i : Nat) : WE := fun ρ Q => cOwn (ρ.getD i .no) fun l => oK (l[l.length - 1]?) fun d => Q d (ρ.set i (.own l.dropLast))
theorem RA.dropLast {H0 Hd : Hp} : ∀ {vs : List V} {l : List D}, RA Γ H0 Hd vs l → RA Γ H0 Hd vs.dropLast l.dropLast
  | _, _, .nil => .nil
  | _, _, .cons h .nil => .nil
  | _, _, .cons h (.cons h' t) => .cons h (RA.dropLast (.cons h' t))
theorem se_pop : SE Γ (tBM0 Γ.K "list" rPop (tVar i)) (wPop i) := ⟨fun {T σ ρ Q Q'} S hw q => by
  obtain ⟨p, vs, l, hi, hs, hp, r, nF, n0, nd, hw⟩ := S.ownAt hw
  obtain ⟨d, hd, hw⟩ := oK_of hw
  obtain ⟨v, hv, rv⟩ := r.get hd
  obtain ⟨S2, e2⟩ := S.putL (l' := l.dropLast) hi hs nF n0 nd r.dropLast
  exact ⟨_, hs, .inl ⟨rfl, vs, SqL.of hp⟩, _, _, v, rfl, rfl, hp, by rw [r.len]; exact hv, q v _ d _ S2 e2 (R.ext e2 rv) hw⟩⟩
@[simp] def wPopAt (i : Nat) (w : WE) : WE := fun ρ Q => cOwn (ρ.getD i .no) fun _ => w ρ fun d ρ1 => match d with
  | .int j => cOwn (ρ1.getD i .no) fun l => (-(2 ^ 63) ≤ j ∧ j < 2 ^ 63) ∧ oK (seqIndex? j l.length) fun k => oK (l[k]?) fun d => Q d (ρ1.set i (.own (l.eraseIdx k)))
  | _ => False
theorem se_popAt (h : SE Γ te we) : SE Γ (tBM Γ.K "list" rPopAt (tVar i) (tCons te tNil)) (wPopAt i we) := ⟨fun {T σ ρ Q Q'} S hw q => by
  obtain ⟨p, vs, l, hi, hs, hp, r, nF, n0, nd, hw⟩ := S.ownAt hw
  refine ⟨_, hs, .inl ⟨rfl, vs, SqL.of hp⟩, h.h S hw fun v T1 d ρ1 S1 e1 r1 q1 => ?_⟩
  cases d <;> first | exact q1.elim | skip
  cases r1
  obtain ⟨p', vs', l', hi, hs', hp, r, nF, n0, nd, hb, hw⟩ := S1.ownAt q1
  rw [hs] at hs'; cases hs'
  obtain ⟨k, hk, hw⟩ := oK_of hw
  obtain ⟨d, hd, hw⟩ := oK_of hw
  obtain ⟨v, hv, rv⟩ := r.get hd
  obtain ⟨S2, e2⟩ := S1.putL (l' := l'.eraseIdx k) hi hs nF n0 nd (r.eraseIdx k)
  exact ⟨_, _, _, k, v, rfl, rfl, hp, hb.1, hb.2, by rw [r.len]; exact hk, hv, q v _ d _ S2 (e1.trans e2) (R.ext e2 rv) hw⟩⟩
/-! ### statements -/
section
variable {st : Stmt} {sts rest : List Stmt} {t u : TS} {w z : WS} {pos : Pos}
@[simp] def wNext : WS := fun D ρ => D.nx ρ
@[simp] def wSeq (w z : WS) : WS := fun D ρ => w { D with nx := z D } ρ
@[simp] def wBrk : WS := fun D ρ => D.bk ρ
@[simp] def wCnt : WS := fun D ρ => D.ct ρ
@[simp] def wDrop (w : WE) : WS := fun D ρ => w ρ fun _ ρ1 => D.nx ρ1
@[simp] def wRet (w : WE) : WS := fun D ρ => w ρ fun d _ => D.rt d
@[simp] def wRetN : WS := fun D _ => D.rt .non
@[simp] def wIf (c : WT) (w z : WS) : WS := fun D ρ => c ρ fun b ρ1 => (b = true → w D ρ1) ∧ (b = false → z D ρ1)
@[simp] def wNev : WS := fun _ _ => False
theorem vb_nil : VB Γ X [] tNext wNext := ⟨pss_nil, ⟨fun {T σ ρ D D'} S h a b c d => a T σ ρ S .refl h⟩⟩
theorem vs_pass : VS Γ X (.Pass pos) tNext wNext := ⟨ps_pass, ⟨fun {T σ ρ D D'} S h a b c d => a T σ ρ S .refl h⟩⟩
theorem vs_doc {x j pos pos'} : VS Γ X (.Expr (.Constant (.str x) j pos) pos') tNext wNext := ⟨ps_doc, ⟨fun {T σ ρ D D'} S h a b c d => a T σ ρ S .refl h⟩⟩
theorem vs_break : VS Γ X (.Break pos) tBreak wBrk := ⟨ps_break, ⟨fun {T σ ρ D D'} S h a b c d => c T σ ρ S .refl h⟩⟩
theorem vs_cont : VS Γ X (.Continue pos) tCont wCnt := ⟨ps_continue, ⟨fun {T σ ρ D D'} S h a b c d => d T σ ρ S .refl h⟩⟩
theorem ss_seq (h : SS Γ t w) (h' : SS Γ u z) : SS Γ (tSeq t u) (wSeq w z) := ⟨fun {T σ ρ D D'} S hw a b c d =>
  h.h S hw (fun T1 σ1 ρ1 S1 e1 q1 => h'.h S1 q1 (fun T2 σ2 ρ2 S2 e2 q2 => a T2 σ2 ρ2 S2 (e1.trans e2) q2) (fun T2 v x o2 e2 r2 q2 => b T2 v x o2 (e1.trans e2) r2 q2) (fun T2 σ2 ρ2 S2 e2 q2 => c T2 σ2 ρ2 S2 (e1.trans e2) q2) (fun T2 σ2 ρ2 S2 e2 q2 => d T2 σ2 ρ2 S2 (e1.trans e2) q2)) b c d⟩
theorem vb_cons (h : VS Γ X st t w) (h' : VB Γ X rest u z) : VB Γ X (st :: rest) (tSeq t u) (wSeq w z) := ⟨pss_cons h.pe h'.pe, ss_seq h.se h'.se⟩
theorem vb_one (h : VS Γ X st t w) : VB Γ X [st] t w := ⟨pss_one h.pe, h.se⟩
theorem vs_expr (h : VE Γ X e te we) (hs : swapsWith e none pos.line X.env = pure false := by rfl) : VS Γ X (.Expr e pos) (tDrop te) (wDrop we) := ⟨ps_expr h.pe hs, ⟨fun {T σ ρ D D'} S hw a b c d => h.se.h S hw fun v T1 x ρ1 S1 e1 r1 q1 => a T1 σ ρ1 S1 e1 q1⟩⟩
theorem vs_ret (h : VE Γ X e te we) : VS Γ X (.Return (some e) pos) (tRet te) (wRet we) := ⟨ps_ret h.pe, ⟨fun {T σ ρ D D'} S hw a b c d => h.se.h S hw fun v T1 x ρ1 S1 e1 r1 q1 => b T1 v x S1.ok e1 r1 q1⟩⟩
theorem vs_retN : VS Γ X (.Return none pos) tRetN wRetN := ⟨ps_retN, ⟨fun {T σ ρ D D'} S hw a b c d => b T .non .non S.ok .refl .non hw⟩⟩
theorem ss_if {tc : TT} {wc : WT} (hc : ST Γ tc wc) (h : SS Γ t w) (h' : SS Γ u z) : SS Γ (tIfS tc t u) (wIf wc w z) := ⟨fun {T σ ρ D D'} S hw a b c d => hc.h S hw fun k T1 ρ1 S1 e1 q1 => by
  have fa := fun T2 σ2 ρ2 S2 e2 q2 => a T2 σ2 ρ2 S2 (Ext.trans (Γ := Γ) e1 e2) q2
  have fb := fun T2 v x o2 e2 r2 q2 => b T2 v x o2 (Ext.trans (Γ := Γ) e1 e2) r2 q2
  have fc := fun T2 σ2 ρ2 S2 e2 q2 => c T2 σ2 ρ2 S2 (Ext.trans (Γ := Γ) e1 e2) q2
  have fd := fun T2 σ2 ρ2 S2 e2 q2 => d T2 σ2 ρ2 S2 (Ext.trans (Γ := Γ) e1 e2) q2
  cases k with
  | true => exact iteT (h.h S1 (q1.1 rfl) fa fb fc fd)
  | false => exact iteF (h'.h S1 (q1.2 rfl) fa fb fc fd)⟩
theorem vs_if {c : Expr} {x y : List Stmt} {tc : TT} {wc : WT} (hc : VT Γ X c tc wc) (h : VB Γ X x t w) (h' : VB Γ X y u z) : VS Γ X (.If c x y pos) (tIfS tc t u) (wIf wc w z) := ⟨ps_if hc.pe h.pe h'.pe, ss_if hc.se h.se h'.se⟩
theorem vs_nev : VS Γ X st tNever wNev := ⟨ps_never, ⟨fun {T σ ρ D D'} S hw a b c d => hw.elim⟩⟩
theorem vb_nev : VB Γ X sts tNever wNev := ⟨pss_never, ⟨fun {T σ ρ D D'} S hw a b c d => hw.elim⟩⟩
/-! ### stores -/
abbrev WG := D → Vn → (Vn → Prop) → Prop
abbrev WGs := List D → Vn → (Vn → Prop) → Prop
@[simp] def gV (i : Nat) : WG := fun d ρ Q => Q (ρ.set i (.val d))
@[simp] def gNilV : WGs := fun ds ρ Q => match ds with
  | [] => Q ρ
  | _ => False
@[simp] def gConsV (w : WG) (u : WGs) : WGs := fun ds ρ Q => match ds with
  | d :: r => w d ρ fun ρ1 => u r ρ1 Q
  | _ => False
@[simp] def gTupV (n : Nat) (u : WGs) : WG := fun d ρ Q => match d with
  | .tup l => l.length = n ∧ u l ρ Q
  | _ => False
def SameOut (ts : List Nat) (σ σ' : L2.St) : Prop := σ'.length = σ.length ∧ ∀ j, j ∉ ts → σ'[j]? = σ[j]?
structure SG (Γ : Gx) (t : TG) (ts : List Nat) (w : WG) : Prop where
  h : ∀ {T : Wo} {σ : L2.St} {ρ : Vn} {v : V} {d : D} {Q : Vn → Prop} {Q' : L2.St → Hp → Prop}, Sv Γ T σ ρ → R Γ T.H0 T.Hd v d → w d ρ Q → (∀ σ' ρ', Sv Γ T σ' ρ' → SameOut ts σ σ' → Q ρ' → Q' σ' T.H) → t v σ T.H Q'
structure SGs (Γ : Gx) (t : TGs) (ts : List Nat) (w : WGs) : Prop where
  h : ∀ {T : Wo} {σ : L2.St} {ρ : Vn} {v : List V} {d : List D} {Q : Vn → Prop} {Q' : L2.St → Hp → Prop}, Sv Γ T σ ρ → RA Γ T.H0 T.Hd v d → w d ρ Q → (∀ σ' ρ', Sv Γ T σ' ρ' → SameOut ts σ σ' → Q ρ' → Q' σ' T.H) → t v σ T.H Q'
structure VG (Γ : Gx) (X : Cx) (e : Expr) (t : TG) (ts : List Nat) (w : WG) : Prop where
  pe : PG X e t
  se : SG Γ t ts w
structure VGs (Γ : Gx) (X : Cx) (es : List Expr) (t : TGs) (ts : List Nat) (w : WGs) : Prop where
  pe : PGs X es t
  se : SGs Γ t ts w
theorem SameOut.trans {ts us : List Nat} {a b c : L2.St} (h : SameOut ts a b) (h' : SameOut us b c) : SameOut (ts ++ us) a c := ⟨h'.1.trans h.1, fun j hj => by
  rw [List.mem_append, not_or] at hj
  rw [h'.2 j hj.2, h.2 j hj.1]⟩
theorem sg_name {i : Nat} : SG Γ (gName i) [i] (gV i) := ⟨fun {T σ ρ v d Q Q'} S r hw q => q _ _ (S.setVal r) ⟨by rw [List.length_set], fun j hj => List.getElem?_set_ne (fun z => hj (by simp [z]))⟩ hw⟩
theorem vg_name {i : Nat} {x : Str} (hN : X.N.Nodup) (hi : X.N[i]? = some x) (hx : Loc X.env.scope x) (hf : X.fn x = true ∨ X.env.scope.names.lookup x = some .local := by first | exact .inl rfl | exact .inr rfl | assumption) : VG Γ X (.Name x pos) (gName i) [i] (gV i) := ⟨pg_name hN hi hx hf, sg_name⟩
theorem vgs_nil : VGs Γ X [] gNil [] gNilV := ⟨pgs_nil, ⟨fun {T σ ρ v d Q Q'} S r hw q => by
  cases d with
  | nil => cases r; exact ⟨rfl, q _ _ S ⟨rfl, fun _ _ => rfl⟩ hw⟩
  | cons _ _ => exact hw.elim⟩⟩
theorem vgs_cons {e : Expr} {es : List Expr} {t : TG} {u : TGs} {ts us : List Nat} {w : WG} {z : WGs} (h : VG Γ X e t ts w) (h' : VGs Γ X es u us z)
    (hs : (assignEach (e :: es) X.env).map (·.2) = assign e X.env :: (assignEach es X.env).map (·.2) := by rfl) : VGs Γ X (e :: es) (gCons t u) (ts ++ us) (gConsV w z) := ⟨pgs_cons h.pe h'.pe hs, ⟨fun {T σ ρ v d Q Q'} S r hw q => by
  cases d with
  | nil => exact hw.elim
  | cons d ds =>
    cases r with
    | cons r rs => exact ⟨_, _, rfl, h.se.h S r hw fun σ1 ρ1 S1 so1 q1 => h'.se.h S1 rs q1 fun σ2 ρ2 S2 so2 q2 => q σ2 ρ2 S2 (so1.trans so2) q2⟩⟩⟩
theorem gTupV_ok {u : TGs} {ts : List Nat} {n : Nat} {z : WGs} (h : SGs Γ u ts z) : SG Γ (gTup Γ.K n u) ts (gTupV n z) := ⟨fun {T σ ρ v d Q Q'} S r hw q => by
  cases d <;> first | exact hw.elim | skip
  cases r with
  | tup hs ra => exact ⟨_, _, rfl, seqT S.ok.s0 hs, by rw [ra.len]; exact hw.1, h.h S ra hw.2 q⟩⟩
theorem vg_tup {es : List Expr} {k : Nat} {u : TGs} {ts : List Nat} {n : Nat} {z : WGs} (hK : X.K = Γ.K) (hc : X.calm = true) (h : VGs Γ X es u ts z) (hn : (assignEach es X.env).length = n := by rfl) (hst : (assignEach es X.env).findIdx? (·.1) = none := by rfl) : VG Γ X (.Tuple es k pos) (gTup Γ.K n u) ts (gTupV n z) := ⟨kpg_tup hK hc h.pe hn hst, gTupV_ok h.se⟩
@[simp] def wSet (w : WE) (g : WG) : WS := fun D ρ => w ρ fun d ρ1 => g d ρ1 D.nx
@[simp] def wSetF (i : Nat) (w : WF) : WS := fun D ρ => w ρ fun l ρ1 => D.nx (ρ1.set i (.own l))
theorem ss_set {t : TE} {w : WE} {g : TG} {ts : List Nat} {wg : WG} (h : SE Γ t w) (hg : SG Γ g ts wg) : SS Γ (tAsg t g) (wSet w wg) := ⟨fun {T σ ρ D D'} S hw a b c d => h.h S hw fun v T1 x ρ1 S1 e1 r1 q1 => hg.h S1 r1 q1 fun σ' ρ' S2 _ q2 => a T1 σ' ρ' S2 e1 q2⟩
theorem ss_setF {i : Nat} {t : TE} {w : WF} (h : SF Γ t w) : SS Γ (tAsg t (gName i)) (wSetF i w) := ⟨fun {T σ ρ D D'} S hw a b c d => h.h S hw fun p vs T1 l ρ1 S1 e1 hp nF n0 nd hn r q1 =>
  a T1 _ _ (S1.set (c := .own l) ⟨p, vs, rfl, hp, r, nF, n0, nd⟩ fun _ j p' c' e2 e3 pc e4 => by cases e2; exact absurd e4 (hn j c' e3 pc)) e1 q1⟩
theorem vs_set {i : Nat} {x : Str} {pos' : Pos} (hN : X.N.Nodup) (hi : X.N[i]? = some x) (hx : Loc X.env.scope x) (h : VE Γ X e te we) (hs : swapsWith e (some (.Name x pos')) pos.line X.env = pure false := by rfl) (hf : X.fn x = true ∨ X.env.scope.names.lookup x = some .local := by first | exact .inl rfl | exact .inr rfl | assumption) :
    VS Γ X (.Assign [.Name x pos'] e pos) (tAsg te (gName i)) (wSet we (gV i)) := ⟨ps_set hN hi hx h.pe hs hf, ss_set h.se sg_name⟩
theorem vs_setF {i : Nat} {x : Str} {pos' : Pos} {we : WF} (hN : X.N.Nodup) (hi : X.N[i]? = some x) (hx : Loc X.env.scope x) (h : VF Γ X e te we) (hs : swapsWith e (some (.Name x pos')) pos.line X.env = pure false := by rfl) (hf : X.fn x = true ∨ X.env.scope.names.lookup x = some .local := by first | exact .inl rfl | exact .inr rfl | assumption) :
    VS Γ X (.Assign [.Name x pos'] e pos) (tAsg te (gName i)) (wSetF i we) := ⟨ps_set hN hi hx h.pe hs hf, ss_setF h.se⟩
theorem vs_asg {tg : Expr} {g : TG} {ts : List Nat} {wg : WG} (h : VE Γ X e te we) (hg : VG Γ X tg g ts wg) (hs : swapsWithSole [tg] e pos.line X.env = pure false := by rfl) (hw : swappedStores [tg] e X.env = pure none := by rfl)
    (h1 : (assignEach [tg] X.env).map (·.2) = [assign tg X.env] := by rfl) : VS Γ X (.Assign [tg] e pos) (tAsg te g) (wSet we wg) := ⟨ps_asg h.pe hg.pe hs hw h1, ss_set h.se hg.se⟩
/-- x += e -/
@[simp] def wAug (i : Nat) (f : Int → Int → Int) (w : WE) : WS := fun D ρ => cVal (ρ.getD i .no) fun x => w ρ fun y ρ1 => match x, y with
  | .int a, .int b => D.nx (ρ1.set i (.val (.int (f a b))))
  | _, _ => False
theorem ss_aug {i : Nat} {f : Int → Int → Int} (h : SE Γ te we) : SS Γ (tAug i te (ipI f)) (wAug i f we) := ⟨fun {T σ ρ D D'} S hw a b c d => by
  obtain ⟨x, e, hw⟩ := cVal_of hw
  obtain ⟨s, e1, v, e2, r⟩ := S.cell i _ (getD_of e (by simp))
  refine ⟨v, by rw [e1, e2], h.h S hw fun v' T1 y ρ1 S1 e1 r1 q1 => ?_⟩
  cases x <;> cases y <;> first | exact q1.elim | skip
  cases r; cases r1
  exact ⟨_, _, rfl, rfl, a T1 _ _ (S1.setVal (.int _)) e1 q1⟩⟩
/-- x, y = a, b -/
@[simp] def wPar (i j : Nat) (w : WA) : WS := fun D ρ => w ρ fun as ρ1 => shN as fun ds => match ds with
  | [a, b] => D.nx ((ρ1.set i (.val a)).set j (.val b))
  | _ => False
theorem ss_par {i j : Nat} {ta : TA} {wa : WA} (h : SA Γ ta wa) : SS Γ (tPar i j ta) (wPar i j wa) := ⟨fun {T σ ρ D D'} S hw a b c d => h.h S hw fun vs T1 as ρ1 S1 e1 r1 q1 => by
  obtain ⟨ds, r, q1⟩ := shN_of r1 q1
  match ds, q1, r with
  | [x, y], q1, .cons rx (.cons ry .nil) => exact ⟨_, _, rfl, a T1 _ _ ((S1.setVal rx).setVal ry) e1 q1⟩⟩
/-! ### one's own list is shared from here on -/
@[simp] def frz (i : Nat) (ρ : Vn) : Vn := match ρ.getD i .no with
  | .own l => ρ.set i (.val (.lst l))
  | _ => ρ
theorem Sv.frz {i : Nat} (S : Sv Γ T σ ρ) : ∃ T', T'.H = T.H ∧ Sv Γ T' σ (frz i ρ) ∧ Ext Γ T T' := by
  unfold Vl.frz
  split
  · rename_i l e
    have e' := getD_of e (by simp)
    obtain ⟨s, e1, p, vs, e2, hp, r, nF, n0, nd⟩ := S.cell i _ e'
    subst e2
    have S1 := S.forget (i := i)
    obtain ⟨S2, E⟩ := S1.freezeNew hp nF n0 nd fun j c ec pc z => by
      rcases set_at ec with ⟨rfl, hl, rfl⟩ | ⟨hj, ec⟩
      · cases pc
      · exact hj (S.dist i j p _ c e' ec rfl pc e1 z)
    refine ⟨⟨T.F, upd T.H0 p (.lst vs), T.Hd, T.H, T.P⟩, rfl, ?_, E⟩
    have S3 := S2.re (i := i) (c := .val (.lst l)) (fun s hs _ => by rw [e1] at hs; cases hs; exact ⟨_, rfl, .lst upd_same (RA.ext E r)⟩) fun z => nomatch z
    rwa [List.set_set] at S3
  · exact ⟨T, rfl, S, .refl⟩
@[simp] def wFrz (i : Nat) (w : WS) : WS := fun D ρ => w D (frz i ρ)
theorem ss_frz {i : Nat} (h : SS Γ t w) : SS Γ t (wFrz i w) := ⟨fun {T σ ρ D D'} S hw a b c d => by
  obtain ⟨T1, e, S1, E⟩ := S.frz (i := i)
  rw [← e]
  exact h.h S1 hw (fun T2 σ2 ρ2 S2 e2 q2 => a T2 σ2 ρ2 S2 (E.trans e2) q2) (fun T2 v x o2 e2 r2 q2 => b T2 v x o2 (E.trans e2) r2 q2) (fun T2 σ2 ρ2 S2 e2 q2 => c T2 σ2 ρ2 S2 (E.trans e2) q2) (fun T2 σ2 ρ2 S2 e2 q2 => d T2 σ2 ρ2 S2 (E.trans e2) q2)⟩
theorem vs_frz (i : Nat) (h : VS Γ X st t w) : VS Γ X st t (wFrz i w) := ⟨h.pe, ss_frz h.se⟩
theorem vb_frz (i : Nat) (h : VB Γ X sts t w) : VB Γ X sts t (wFrz i w) := ⟨h.pe, ss_frz h.se⟩
end
end
end Vl

namespace Vl
open PySem PySem.Spec PyProof.Rows L2 Hl

section
variable {Γ : Gx} {X : Cx} {T : Wo} {σ : L2.St} {ρ : Vn}
/-! ### what a loop walks -/
abbrev WI := Vn → (List D → Vn → Prop) → Prop
structure Lat (Γ : Gx) (T T' : Wo) : Prop where
  ok : T'.Ok
  f : Same T.F T'.F
  s0 : Same T.H0 T'.H0
  da : ∀ a, Γ.DA T.Hd a → Γ.DA T'.Hd a
structure Its (Γ : Gx) (T : Wo) (J : It) (ds : List D) : Prop where
  go : ∀ T', Lat Γ T T' → ∀ i, i < ds.length → J.go i T'.H
  stop : ∀ T', Lat Γ T T' → J.stop ds.length T'.H
  yld : ∀ T', Lat Γ T T' → ∀ i d x H', ds[i]? = some d → J.yld i T'.H x H' → ∃ T'', Gr T' T'' ∧ T''.H = H' ∧ R Γ T''.H0 T''.Hd x d
structure SI (Γ : Gx) (t : TI) (w : WI) : Prop where
  h : ∀ {T : Wo} {σ : L2.St} {ρ : Vn} {Q : List D → Vn → Prop} {Q' : It → Hp → Prop}, Sv Γ T σ ρ → w ρ Q → (∀ J T' ds ρ', Sv Γ T' σ ρ' → Ext Γ T T' → Its Γ T' J ds → Q ds ρ' → Q' J T'.H) → t σ T.H Q'
structure VI (Γ : Gx) (X : Cx) (tg e : Expr) (t : TI) (w : WI) : Prop where
  pe : PI X tg e t
  se : SI Γ t w
theorem Lat.ext {R1 : Gx} {T T' : Wo} (l : Lat R1 T T') {vs : List V} {ds : List D} (h : RA R1 T.H0 T.Hd vs ds) : RA R1 T'.H0 T'.Hd vs ds := h.mono l.s0 l.da
/-- a list that stands (shared or pinned), a tuple -/
@[simp] def cStd : Cell → (D → Prop) → Prop
  | .val d, k => k d
  | .pin _ l, k => k (.lst l)
  | _, _ => False
@[simp] def rsW (ρ : Vn) : AI → (D → Prop) → Prop
  | .d d, k => k d
  | .sl i, k => cStd (ρ.getD i .no) k
@[simp] def itD : D → (List D → Prop) → Prop
  | .lst l, k => k l
  | .tup l, k => k l
  | _, _ => False
@[simp] def wIt (w : WO) : WI := fun ρ Q => w ρ fun a ρ1 => rsW ρ1 a fun d => itD d fun l => Q l ρ1
inductive Std (Γ : Gx) (T : Wo) : V → D → Prop
  | sh {v d} : R Γ T.H0 T.Hd v d → Std Γ T v d
  | pi {p vs l} : T.F p = some (.lst vs) → RA Γ T.H0 T.Hd vs l → Std Γ T (.ref p) (.lst l)
theorem Sv.rsW {v : V} {a : AI} {k : D → Prop} (S : Sv Γ T σ ρ) (ha : AR Γ T σ v a) (h : rsW ρ a k) : ∃ d, Std Γ T v d ∧ k d := by
  cases a with
  | d d => exact ⟨d, .sh ha, h⟩
  | sl i =>
    have h : cStd (ρ.getD i .no) k := h
    cases e : ρ.getD i .no with
    | val d =>
      rw [e] at h
      obtain ⟨s, e1, v', e2, r⟩ := S.cell i _ (getD_of e (by simp))
      rw [show σ[i]? = some (some v) from ha] at e1
      cases e1; cases e2
      exact ⟨d, .sh r, h⟩
    | pin p l =>
      rw [e] at h
      obtain ⟨s, e1, vs, e2, _, hp, r⟩ := S.cell i _ (getD_of e (by simp))
      rw [show σ[i]? = some (some v) from ha] at e1
      cases e1; cases e2
      exact ⟨_, .pi hp r, h⟩
    | _ => rw [e] at h; exact h.elim
theorem lt_at {vs : List V} {ds : List D} {i : Nat} {H0 Hd : Hp} (r : RA Γ H0 Hd vs ds) (h : i < ds.length) : ∃ x, vs[i]? = some x := ⟨_, List.getElem?_eq_getElem (by rw [r.len]; exact h)⟩
theorem its_list {p : Addr} {vs : List V} {ds : List D} (hs : ∀ T', Lat Γ T T' → SqL Γ.K T'.H p vs) (r : RA Γ T.H0 T.Hd vs ds) : Its Γ T (Itl Γ.K p) ds := by
  refine ⟨fun T' l i hi => ?_, fun T' l => ⟨vs, hs T' l, by rw [r.len]; exact Nat.le_refl _⟩, fun T' l i d x H' hd hy => ?_⟩
  · obtain ⟨x, hx⟩ := lt_at r hi
    exact ⟨vs, x, hs T' l, hx⟩
  · obtain ⟨v, hv, rv⟩ := (l.ext r).get hd
    have z := hy.2 vs (hs T' l)
    rw [hv] at z; cases z
    exact ⟨T', .refl l.ok, hy.1.symm, rv⟩
theorem its_tup {p : Addr} {vs : List V} {ds : List D} (hs : ∀ T', Lat Γ T T' → SqT Γ.K T'.H p vs) (r : RA Γ T.H0 T.Hd vs ds) : Its Γ T (Itt Γ.K p) ds := by
  refine ⟨fun T' l i hi => ?_, fun T' l => ⟨vs, hs T' l, by rw [r.len]; exact Nat.le_refl _⟩, fun T' l i d x H' hd hy => ?_⟩
  · obtain ⟨x, hx⟩ := lt_at r hi
    exact ⟨vs, x, hs T' l, hx⟩
  · obtain ⟨v, hv, rv⟩ := (l.ext r).get hd
    have z := hy.2 vs (hs T' l)
    rw [hv] at z; cases z
    exact ⟨T', .refl l.ok, hy.1.symm, rv⟩
@[simp] def wItL (w : WO) : WI := fun ρ Q => w ρ fun a ρ1 => rsW ρ1 a fun d => match d with
  | .lst l => Q l ρ1
  | _ => False
@[simp] def wItT (w : WO) : WI := fun ρ Q => w ρ fun a ρ1 => rsW ρ1 a fun d => match d with
  | .tup l => Q l ρ1
  | _ => False
theorem si_list {t : TE} {w : WO} (h : SO Γ t w) : SI Γ (iList Γ.K t) (wItL w) := ⟨fun {T σ ρ Q Q'} S hw q => h.h S hw fun v T1 a ρ1 S1 e1 r1 q1 => by
  obtain ⟨d, rd, q1⟩ := S1.rsW r1 q1
  cases d <;> first | exact q1.elim | skip
  cases rd with
  | sh r =>
    cases r with
    | lst hp ra => exact ⟨_, rfl, ⟨_, SqL.of (S1.ok.s0 _ _ hp)⟩, q _ T1 _ ρ1 S1 e1 (its_list (fun T' l => SqL.of (l.ok.s0 _ _ (l.s0 _ _ hp))) ra) q1⟩
  | pi hp ra => exact ⟨_, rfl, ⟨_, SqL.of (S1.ok.sF _ _ hp)⟩, q _ T1 _ ρ1 S1 e1 (its_list (fun T' l => SqL.of (l.ok.sF _ _ (l.f _ _ hp))) ra) q1⟩⟩
theorem si_tup {t : TE} {w : WO} (h : SO Γ t w) : SI Γ (iTup Γ.K t) (wItT w) := ⟨fun {T σ ρ Q Q'} S hw q => h.h S hw fun v T1 a ρ1 S1 e1 r1 q1 => by
  obtain ⟨d, rd, q1⟩ := S1.rsW r1 q1
  cases d <;> first | exact q1.elim | skip
  cases rd with
  | sh r =>
    cases r with
    | tup hp ra => exact ⟨_, rfl, ⟨_, seqT S1.ok.s0 hp⟩, q _ T1 _ ρ1 S1 e1 (its_tup (fun T' l => seqT l.ok.s0 (seqT l.s0 hp)) ra) q1⟩⟩
/-- a list or a tuple: told by what comes -/
def iSeq (K : PySem.W.Frag) (tl : TE) : TI := fun σ H R => tl σ H fun x H1 => (∃ a, x = .ref a ∧ (∃ xs, SqL K H1 a xs) ∧ R (Itl K a) H1) ∨ (∃ a, x = .ref a ∧ (∃ xs, SqT K H1 a xs) ∧ R (Itt K a) H1)
theorem pi_seq {tg l : Expr} {tl : TE} (hl : PE X l tl) : PI X tg l (iSeq X.K tl) := by
  refine ⟨fun pins s σ H R I h => ?_⟩
  refine thn (hl.run pins s σ H _ I h) fun v s1 ⟨x, H1, I1, r1, q1⟩ => ?_
  rcases q1 with ⟨a, e, ⟨xs, hq⟩, q⟩ | ⟨a, e, ⟨xs, hq⟩, q⟩
  · subst e
    cases r1
    obtain ⟨its, rv, p, hz⟩ := I1.list hq
    refine wpAny_pyIter_list p.isList ?_
    refine ⟨s1.heap.objs.size, [s1.heap.objs.size], _, _, H1, rfl, I1.kept (t' := s1.toks) fun b o e => Heap.get?_push_of_some _ e, turn_list a _, ⟨_, Heap.get?_push_size _ rfl, rfl, rfl⟩, fun b hb => ?_, q⟩
    have e : b = s1.heap.objs.size := by simpa using hb
    subst e
    exact I1.fpOk (Nat.le_refl _) (I1.hok.fresh (Nat.le_refl _))
  · subst e
    cases r1
    obtain ⟨its, rv, p, hz⟩ := I1.tuple hq
    refine wpAny_pyIter_tuple (show s1.heap.IsTuple a its.toArray from p) ?_
    refine ⟨s1.heap.objs.size, [s1.heap.objs.size], _, _, H1, rfl, I1.kept (t' := s1.toks) fun b o e => Heap.get?_push_of_some _ e, turn_tuple a _, ⟨_, Heap.get?_push_size _ rfl, rfl, rfl⟩, fun b hb => ?_, q⟩
    have e : b = s1.heap.objs.size := by simpa using hb
    subst e
    exact I1.fpOk (Nat.le_refl _) (I1.hok.fresh (Nat.le_refl _))
theorem si_seq {t : TE} {w : WO} (h : SO Γ t w) : SI Γ (iSeq Γ.K t) (wIt w) := ⟨fun {T σ ρ Q Q'} S hw q => h.h S hw fun v T1 a ρ1 S1 e1 r1 q1 => by
  obtain ⟨d, rd, q1⟩ := S1.rsW r1 q1
  cases d <;> first | exact q1.elim | skip
  · cases rd with
    | sh r =>
      cases r with
      | tup hp ra => exact .inr ⟨_, rfl, ⟨_, seqT S1.ok.s0 hp⟩, q _ T1 _ ρ1 S1 e1 (its_tup (fun T' l => seqT l.ok.s0 (seqT l.s0 hp)) ra) q1⟩
  · cases rd with
    | sh r =>
      cases r with
      | lst hp ra => exact .inl ⟨_, rfl, ⟨_, SqL.of (S1.ok.s0 _ _ hp)⟩, q _ T1 _ ρ1 S1 e1 (its_list (fun T' l => SqL.of (l.ok.s0 _ _ (l.s0 _ _ hp))) ra) q1⟩
    | pi hp ra => exact .inl ⟨_, rfl, ⟨_, SqL.of (S1.ok.sF _ _ hp)⟩, q _ T1 _ ρ1 S1 e1 (its_list (fun T' l => SqL.of (l.ok.sF _ _ (l.f _ _ hp))) ra) q1⟩⟩
theorem vi_seq {tg l : Expr} {tl : TE} {w : WO} (hK : X.K = Γ.K) (h : VO Γ X l tl w) : VI Γ X tg l (iSeq Γ.K tl) (wIt w) := ⟨by rw [← hK]; exact pi_seq h.pe, si_seq h.se⟩
/-- range -/
def rgD (lo : Int) (n : Nat) : List D := (List.range n).map fun i => .int (lo + (i : Nat))
theorem rgD_length {lo : Int} {n : Nat} : (rgD lo n).length = n := by simp [rgD]
theorem its_range {lo : Int} {n : Nat} : Its Γ T (Itr lo n) (rgD lo n) := by
  refine ⟨fun T' l i hi => by rw [rgD_length] at hi; exact hi, fun T' l => by rw [rgD_length]; exact Nat.le_refl _, fun T' l i d x H' hd hy => ?_⟩
  obtain ⟨rfl, rfl⟩ := hy
  have hi : i < n := by
    obtain ⟨z, _⟩ := List.getElem?_eq_some_iff.mp hd
    rw [rgD_length] at z; exact z
  unfold rgD at hd
  rw [List.getElem?_map, List.getElem?_range hi] at hd
  cases hd
  exact ⟨T', .refl l.ok, rfl, .int _⟩
@[simp] def cI1 : List D → (Int → Prop) → Prop
  | [.int j], k => k j
  | _, _ => False
@[simp] def cI2 : List D → (Int → Int → Prop) → Prop
  | [.int i, .int j], k => k i j
  | _, _ => False
@[simp] def cI3 : List D → (Int → Int → Int → Prop) → Prop
  | [.int i, .int j, .int l], k => k i j l
  | _, _ => False
theorem cI1_of {l : List D} {k : Int → Prop} (h : cI1 l k) : ∃ i, l = [.int i] ∧ k i := by
  unfold cI1 at h
  split at h
  · exact ⟨_, rfl, h⟩
  · exact h.elim
theorem cI2_of {l : List D} {k : Int → Int → Prop} (h : cI2 l k) : ∃ i j, l = [.int i, .int j] ∧ k i j := by
  unfold cI2 at h
  split at h
  · exact ⟨_, _, rfl, h⟩
  · exact h.elim
theorem cI3_of {l : List D} {k : Int → Int → Int → Prop} (h : cI3 l k) : ∃ i j m, l = [.int i, .int j, .int m] ∧ k i j m := by
  unfold cI3 at h
  split at h
  · exact ⟨_, _, _, rfl, h⟩
  · exact h.elim
@[simp] def wRg1 (w : WA) : WI := fun ρ Q => w ρ fun as ρ1 => rsN ρ1 as fun ds => cI1 ds fun j => (-(2 ^ 62) ≤ j ∧ j < 2 ^ 62) ∧ Q (rgD 0 j.toNat) ρ1
@[simp] def wRg2 (w : WA) : WI := fun ρ Q => w ρ fun as ρ1 => rsN ρ1 as fun ds => cI2 ds fun i j => (-(2 ^ 62) ≤ i ∧ i < 2 ^ 62 ∧ -(2 ^ 62) ≤ j ∧ j < 2 ^ 62) ∧ Q (rgD i (j - i).toNat) ρ1
theorem si_rg1 {t : TA} {w : WA} (h : SA Γ t w) : SI Γ (iRng1 t) (wRg1 w) := ⟨fun {T σ ρ Q Q'} S hw q => h.h S hw fun vs T1 as ρ1 S1 e1 r1 q1 => by
  obtain ⟨ds, rd, q1⟩ := S1.rsN r1 q1
  obtain ⟨j, rfl, q1⟩ := cI1_of q1
  obtain ⟨v, rfl, r⟩ := rd.one
  cases r.int
  exact ⟨j, rfl, q1.1.1, q1.1.2, q _ T1 _ ρ1 S1 e1 its_range q1.2⟩⟩
theorem si_rg2 {t : TA} {w : WA} (h : SA Γ t w) : SI Γ (iRng2 t) (wRg2 w) := ⟨fun {T σ ρ Q Q'} S hw q => h.h S hw fun vs T1 as ρ1 S1 e1 r1 q1 => by
  obtain ⟨ds, rd, q1⟩ := S1.rsN r1 q1
  obtain ⟨i, j, rfl, q1⟩ := cI2_of q1
  obtain ⟨v, u, rfl, r, r'⟩ := rd.two
  cases r.int
  cases r'.int
  exact ⟨i, j, rfl, q1.1, q _ T1 _ ρ1 S1 e1 its_range q1.2⟩⟩
theorem vi_rg1 {tg a : Expr} {ta : TA} {wa : WA} {p pos : Pos} (hg : Gl X "range") (hm : X.mg "range" = none) (ha : VA Γ X [a] ta wa) (hs : starEach [a] X.env = [(false, eval a X.env)] := by rfl) : VI Γ X tg (.Call (.Name "range" p) [a] [] pos) (iRng1 ta) (wRg1 wa) := ⟨pi_range1 hg hm ha.pe hs, si_rg1 ha.se⟩
theorem vi_rg2 {tg a b : Expr} {ta : TA} {wa : WA} {p pos : Pos} (hg : Gl X "range") (hm : X.mg "range" = none) (ha : VA Γ X [a, b] ta wa) (hs : starEach [a, b] X.env = [(false, eval a X.env), (false, eval b X.env)] := by rfl) (hs2 : starEach [b] X.env = [(false, eval b X.env)] := by rfl) : VI Γ X tg (.Call (.Name "range" p) [a, b] [] pos) (iRng2 ta) (wRg2 wa) := ⟨pi_range2 hg hm ha.pe hs hs2, si_rg2 ha.se⟩
/-! ### for, while -/
@[simp] def forV (g : WG) (b : WS) : List D → WS
  | [] => fun D ρ => D.nx ρ
  | d :: ds => fun D ρ => g d ρ fun ρ1 => b { D with nx := fun ρ2 => forV g b ds D ρ2, ct := fun ρ2 => forV g b ds D ρ2, bk := D.nx } ρ1
@[simp] def wFor (w : WI) (g : WG) (b : WS) : WS := fun D ρ => w ρ fun ds ρ1 => forV g b ds D ρ1
theorem Ext.lat {T' : Wo} (e : Ext Γ T T') (o : T'.Ok) : Lat Γ T T' := ⟨o, by rw [e.f]; exact Same.refl _, e.s0, e.da⟩
theorem ss_for {ti : TI} {g : TG} {ts : List Nat} {tb : TS} {w : WI} {wg : WG} {wb : WS} (hi : SI Γ ti w) (hg : SG Γ g ts wg) (hb : SS Γ tb wb) : SS Γ (tFor ti g tb) (wFor w wg wb) := ⟨fun {T σ ρ D D'} S hw a b c d => hi.h S hw fun J T1 ds ρ1 S1 e1 its q1 => by
  refine ⟨fun i m σ' H' => ∃ T' ρ', T'.H = H' ∧ Sv Γ T' σ' ρ' ∧ Ext Γ T1 T' ∧ forV wg wb (ds.drop i) D ρ' ∧ m = ds.length - i ∧ i ≤ ds.length, ⟨_, T1, ρ1, rfl, S1, .refl, q1, rfl, Nat.zero_le _⟩, ?_⟩
  rintro i m σ' H' ⟨T', ρ', rfl, S', e', q', rfl, hi⟩
  have lat := e'.lat S'.ok
  by_cases hlt : i < ds.length
  · rw [List.drop_eq_getElem_cons hlt] at q'
    refine .inr ⟨its.go T' lat i hlt, fun σ2 H2 => ∃ T2 ρ2, T2.H = H2 ∧ Sv Γ T2 σ2 ρ2 ∧ Ext Γ T1 T2 ∧ forV wg wb (ds.drop (i + 1)) D ρ2, ?_, fun x H2 hy => ?_⟩
    · rintro σ2 H2 ⟨T2, ρ2, h1, h2, h3, h4⟩
      exact ⟨ds.length - (i + 1), by omega, T2, ρ2, h1, h2, h3, h4, rfl, hlt⟩
    · obtain ⟨T2, g2, rfl, r2⟩ := its.yld T' lat i ds[i] x H2 (List.getElem?_eq_getElem hlt) hy
      have S2 := S'.grow g2
      have e2 : Ext Γ T1 T2 := e'.trans g2.ext
      refine hg.h S2 r2 q' fun σ3 ρ3 S3 _ q3 => hb.h S3 q3 (fun T4 σ4 ρ4 S4 e4 q4 => ⟨T4, ρ4, rfl, S4, e2.trans e4, q4⟩) (fun T4 v x o4 e4 r4 q4 => b T4 v x o4 ((e1.trans e2).trans e4) r4 q4) (fun T4 σ4 ρ4 S4 e4 q4 => a T4 σ4 ρ4 S4 ((e1.trans e2).trans e4) q4) (fun T4 σ4 ρ4 S4 e4 q4 => ⟨T4, ρ4, rfl, S4, e2.trans e4, q4⟩)
  · have z : i = ds.length := by omega
    subst z
    rw [List.drop_length] at q'
    exact .inl ⟨its.stop T' lat, a T' σ' ρ' S' (e1.trans e') q'⟩⟩
theorem vs_for {tg it : Expr} {body : List Stmt} {ti : TI} {g : TG} {ts : List Nat} {tb : TS} {w : WI} {wg : WG} {wb : WS} {pos : Pos} (hp : PassesOwn (model X.prog X.w) X.A X.env X.xe) (hc : X.calm = true) (hi : VI Γ X tg it ti w) (hg : VG Γ X tg g ts wg) (hb : VB Γ X body tb wb) (hs : ∀ x, foldedSetIterable it X.env x = pure x := by intro _; rfl) : VS Γ X (.For tg it body [] pos) (tFor ti g tb) (wFor w wg wb) := ⟨ps_for hp hc hi.pe hg.pe hb.pe hs, ss_for hi.se hg.se hb.se⟩
@[simp] def whileV (c : WT) (b : WS) : Nat → WS
  | 0 => fun _ _ => False
  | n + 1 => fun D ρ => c ρ fun k ρ1 => (k = true → b { D with nx := fun ρ2 => whileV c b n D ρ2, ct := fun ρ2 => whileV c b n D ρ2, bk := D.nx } ρ1) ∧ (k = false → D.nx ρ1)
def wWhile (c : WT) (b : WS) : WS := fun D ρ => ∃ n, whileV c b n D ρ
theorem ss_while {tc : TT} {tb : TS} {wc : WT} {wb : WS} (hc : ST Γ tc wc) (hb : SS Γ tb wb) : SS Γ (tWhile tc tb) (wWhile wc wb) := ⟨fun {T σ ρ D D'} S hw a b c d => by
  obtain ⟨n, hw⟩ := hw
  refine ⟨fun m σ' H' => ∃ T' ρ', T'.H = H' ∧ Sv Γ T' σ' ρ' ∧ Ext Γ T T' ∧ whileV wc wb m D ρ', ⟨n, T, ρ, rfl, S, .refl, hw⟩, ?_⟩
  rintro m σ' H' ⟨T', ρ', rfl, S', e', q'⟩
  cases m with
  | zero => exact q'.elim
  | succ m =>
    refine hc.h S' q' fun k T2 ρ2 S2 e2 q2 => ?_
    cases k with
    | true =>
      refine iteT ⟨fun σ2 H2 => ∃ T2 ρ2, T2.H = H2 ∧ Sv Γ T2 σ2 ρ2 ∧ Ext Γ T T2 ∧ whileV wc wb m D ρ2, fun σ2 H2 h => ⟨m, Nat.lt_succ_self _, h⟩, ?_⟩
      exact hb.h S2 (q2.1 rfl) (fun T4 σ4 ρ4 S4 e4 q4 => ⟨T4, ρ4, rfl, S4, (e'.trans e2).trans e4, q4⟩) (fun T4 v x o4 e4 r4 q4 => b T4 v x o4 ((e'.trans e2).trans e4) r4 q4) (fun T4 σ4 ρ4 S4 e4 q4 => a T4 σ4 ρ4 S4 ((e'.trans e2).trans e4) q4) (fun T4 σ4 ρ4 S4 e4 q4 => ⟨T4, ρ4, rfl, S4, (e'.trans e2).trans e4, q4⟩)
    | false => exact iteF (a T2 σ' ρ2 S2 (e'.trans e2) (q2.2 rfl))⟩
theorem vs_while {c : Expr} {body : List Stmt} {tc : TT} {tb : TS} {wc : WT} {wb : WS} {pos : Pos} (hp : PassesOwn (model X.prog X.w) X.A X.env X.xe) (hc : VT Γ X c tc wc) (hb : VB Γ X body tb wb) : VS Γ X (.While c body [] pos) (tWhile tc tb) (wWhile wc wb) := ⟨ps_while hp hc.pe hb.pe, ss_while hc.se hb.se⟩
/-! ### one's own list is pinned for a while -/
theorem Sv.pinned {p : Addr} {vs : List V} {i : Nat} {l : List D} (S : Sv Γ T σ ρ) (hi : ρ[i]? = some (.own l)) (hs : σ[i]? = some (some (.ref p))) (hp : T.H p = some (.lst vs)) (r : RA Γ T.H0 T.Hd vs l) (nF : T.F p = none) (n0 : T.H0 p = none) (nd : T.Hd p = none) :
    Sv Γ ⟨upd T.F p (.lst vs), T.H0, T.Hd, T.H, fun q => q = p ∨ T.P q⟩ σ (ρ.set i (.pin p l)) := by
  refine ⟨⟨fun b x e => ?_, S.ok.s0, S.ok.sd, fun {b x} e => ?_, fun {b x} e => ?_, S.ok.zd⟩, by rw [List.length_set, S.len], fun j c e => ?_, fun j k q c1 c2 e1 e2 p1 p2 e3 e4 => ?_⟩
  · dsimp only at e ⊢
    by_cases hb : b = p
    · subst hb; rw [upd_same] at e; cases e; exact hp
    · rw [upd_ne hb] at e; exact S.ok.sF _ _ e
  · dsimp only at e ⊢
    by_cases hb : b = p
    · subst hb; exact n0
    · rw [upd_ne hb] at e; exact S.ok.F0 e
  · dsimp only at e ⊢
    by_cases hb : b = p
    · subst hb; exact nd
    · rw [upd_ne hb] at e; exact S.ok.Fd e
  · rcases set_at e with ⟨rfl, hl, rfl⟩ | ⟨hj, e⟩
    · exact ⟨_, hs, vs, rfl, .inl rfl, upd_same, r⟩
    · obtain ⟨s, e1, r1⟩ := S.cell j c e
      refine ⟨s, e1, ?_⟩
      have nq : ∀ q, c.priv = true → s = some (.ref q) → q ≠ p := fun q pq z z2 => hj (S.dist i j p _ c hi e rfl pq hs (by rw [e1, z, z2]))
      cases c with
      | no => trivial
      | val d => exact r1
      | own l => obtain ⟨q, us, e2, e3, r, m1, m2⟩ := r1; exact ⟨q, us, e2, e3, r, (by dsimp only; rw [upd_ne (nq q rfl e2)]; exact m1), m2⟩
      | pin q l =>
        obtain ⟨us, e2, e0, e3, r⟩ := r1
        exact ⟨us, e2, .inr e0, (by dsimp only; rw [upd_ne (fun z => by rw [z, nF] at e3; cases e3)]; exact e3), r⟩
      | obj q c fs => obtain ⟨C, dx, vf, e2, e3, m, cl, na, r, m1, m2⟩ := r1; exact ⟨C, dx, vf, e2, e3, m, cl, na, r, (by dsimp only; rw [upd_ne (nq q rfl e2)]; exact m1), m2⟩
      | dic l => obtain ⟨q, us, e2, e3, r, m1, m2⟩ := r1; exact ⟨q, us, e2, e3, r, (by dsimp only; rw [upd_ne (nq q rfl e2)]; exact m1), m2⟩
  · have f : ∀ {j : Nat} {c1 : Cell}, (ρ.set i (.pin p l))[j]? = some c1 → c1.priv = true → ∃ c', ρ[j]? = some c' ∧ c'.priv = true := fun {j c1} e pq => by
      rcases set_at e with ⟨rfl, hl, rfl⟩ | ⟨hj, e⟩
      · exact ⟨_, hi, rfl⟩
      · exact ⟨_, e, pq⟩
    obtain ⟨c1', f1, q1⟩ := f e1 p1
    obtain ⟨c2', f2, q2⟩ := f e2 p2
    exact S.dist j k q _ _ f1 f2 q1 q2 e3 e4
theorem Sv.unpinned {F : Hp} {P : Addr → Prop} {p : Addr} {vs : List V} {i : Nat} {l : List D} (S : Sv Γ T σ ρ) (hF : T.F = upd F p (.lst vs)) (hP : T.P = fun q => q = p ∨ P q) (nF : F p = none) (hi : ρ.getD i .no = .pin p l) : Sv Γ ⟨F, T.H0, T.Hd, T.H, P⟩ σ (ρ.set i (.own l)) := by
  have sF : Same F T.F := by rw [hF]; exact same_new nF
  have hi' := getD_of hi (by simp)
  obtain ⟨s, hs, us, rfl, _, hp, r⟩ := S.cell i _ hi'
  have nq : ∀ {q : Addr}, T.F q = none → q ≠ p := fun n z => by rw [z, hp] at n; cases n
  refine ⟨⟨fun b x e => S.ok.sF _ _ (sF _ _ e), S.ok.s0, S.ok.sd, fun {b x} e => S.ok.F0 (sF _ _ e), fun {b x} e => S.ok.Fd (sF _ _ e), S.ok.zd⟩, by rw [List.length_set, S.len], fun j c e => ?_, fun j k q c1 c2 e1 e2 p1 p2 e3 e4 => ?_⟩
  · rcases set_at e with ⟨rfl, hl, rfl⟩ | ⟨hj, e⟩
    · exact ⟨_, hs, p, us, rfl, S.ok.sF _ _ hp, r, nF, S.ok.F0 hp, S.ok.Fd hp⟩
    · obtain ⟨s, e1, r1⟩ := S.cell j c e
      refine ⟨s, e1, ?_⟩
      cases c with
      | no => trivial
      | val d => exact r1
      | own l => obtain ⟨q, us, e2, e3, r, m1, m2⟩ := r1; exact ⟨q, us, e2, e3, r, none_of_le sF m1, m2⟩
      | pin q l' =>
        obtain ⟨us', e2, e0, e3, r⟩ := r1
        have hq : q ≠ p := fun z => hj (S.dist i j p _ _ hi' e rfl rfl hs (by rw [e1, e2, z]))
        refine ⟨us', e2, ?_, ?_, r⟩
        · rw [hP] at e0
          exact e0.resolve_left hq
        dsimp only
        rw [hF, upd_ne hq] at e3
        exact e3
      | obj q c fs => obtain ⟨C, dx, vf, e2, e3, m, cl, na, r, m1, m2⟩ := r1; exact ⟨C, dx, vf, e2, e3, m, cl, na, r, none_of_le sF m1, m2⟩
      | dic l => obtain ⟨q, us, e2, e3, r, m1, m2⟩ := r1; exact ⟨q, us, e2, e3, r, none_of_le sF m1, m2⟩
  · have f : ∀ {j : Nat} {c1 : Cell}, (ρ.set i (.own l))[j]? = some c1 → c1.priv = true → ∃ c', ρ[j]? = some c' ∧ c'.priv = true := fun {j c1} e pq => by
      rcases set_at e with ⟨rfl, hl, rfl⟩ | ⟨hj, e⟩
      · exact ⟨_, hi', rfl⟩
      · exact ⟨_, e, pq⟩
    obtain ⟨c1', f1, q1⟩ := f e1 p1
    obtain ⟨c2', f2, q2⟩ := f e2 p2
    exact S.dist j k q _ _ f1 f2 q1 q2 e3 e4
end
end Vl

namespace Vl
open PySem PySem.Spec PyProof.Rows L2 Hl

section
variable {Γ : Gx} {X : Cx} {T : Wo} {σ : L2.St} {ρ : Vn}
/-- the slot is pinned while w runs -/
@[simp] def wPinS (i : Nat) (w : WS) : WS := fun D ρ => cOwn (ρ.getD i .no) fun l => ∀ p, w { nx := fun ρ' => ρ'.getD i .no = .pin p l ∧ D.nx (ρ'.set i (.own l)), rt := D.rt, bk := fun ρ' => ρ'.getD i .no = .pin p l ∧ D.bk (ρ'.set i (.own l)), ct := fun ρ' => ρ'.getD i .no = .pin p l ∧ D.ct (ρ'.set i (.own l)) } (ρ.set i (.pin p l))
@[simp] def wPinE (i : Nat) (w : WE) : WE := fun ρ Q => cOwn (ρ.getD i .no) fun l => ∀ p, w (ρ.set i (.pin p l)) fun d ρ' => ρ'.getD i .no = .pin p l ∧ Q d (ρ'.set i (.own l))
@[simp] def wPinF (i : Nat) (w : WF) : WF := fun ρ Q => cOwn (ρ.getD i .no) fun l => ∀ p, w (ρ.set i (.pin p l)) fun d ρ' => ρ'.getD i .no = .pin p l ∧ Q d (ρ'.set i (.own l))
theorem pin_ext {F : Hp} {P : Addr → Prop} {p : Addr} {o : HO} {T' : Wo} (e : Ext Γ ⟨upd F p o, T.H0, T.Hd, T.H, P⟩ T') (h : T.F = F) : Ext Γ T ⟨F, T'.H0, T'.Hd, T'.H, T.P⟩ := ⟨h.symm, rfl, e.s0, e.da⟩
theorem ss_pin {i : Nat} {t : TS} {w : WS} (h : SS Γ t w) : SS Γ t (wPinS i w) := ⟨fun {T σ ρ D D'} S hw a b c d => by
  obtain ⟨p, vs, l, hi, hs, hp, r, nF, n0, nd, hw⟩ := S.ownAt hw
  refine h.h (T := ⟨upd T.F p (.lst vs), T.H0, T.Hd, T.H, fun q => q = p ∨ T.P q⟩) (S.pinned hi hs hp r nF n0 nd) (hw p) (fun T1 σ1 ρ1 S1 e1 q1 => ?_) (fun T1 v x o1 e1 r1 q1 => ?_) (fun T1 σ1 ρ1 S1 e1 q1 => ?_) (fun T1 σ1 ρ1 S1 e1 q1 => ?_)
  · exact a ⟨T.F, T1.H0, T1.Hd, T1.H, T.P⟩ σ1 _ (S1.unpinned e1.f e1.p nF q1.1) (pin_ext e1 rfl) q1.2
  · have sF : Same T.F T1.F := by rw [e1.f]; exact same_new nF
    exact b ⟨T.F, T1.H0, T1.Hd, T1.H, T.P⟩ v x ⟨fun b x e => o1.sF _ _ (sF _ _ e), o1.s0, o1.sd, fun {b x} e => o1.F0 (sF _ _ e), fun {b x} e => o1.Fd (sF _ _ e), o1.zd⟩ (pin_ext e1 rfl) r1 q1
  · exact c ⟨T.F, T1.H0, T1.Hd, T1.H, T.P⟩ σ1 _ (S1.unpinned e1.f e1.p nF q1.1) (pin_ext e1 rfl) q1.2
  · exact d ⟨T.F, T1.H0, T1.Hd, T1.H, T.P⟩ σ1 _ (S1.unpinned e1.f e1.p nF q1.1) (pin_ext e1 rfl) q1.2⟩
theorem se_pin {i : Nat} {t : TE} {w : WE} (h : SE Γ t w) : SE Γ t (wPinE i w) := ⟨fun {T σ ρ Q Q'} S hw q => by
  obtain ⟨p, vs, l, hi, hs, hp, r, nF, n0, nd, hw⟩ := S.ownAt hw
  exact h.h (T := ⟨upd T.F p (.lst vs), T.H0, T.Hd, T.H, fun q => q = p ∨ T.P q⟩) (S.pinned hi hs hp r nF n0 nd) (hw p) fun v T1 d ρ1 S1 e1 r1 q1 => q v ⟨T.F, T1.H0, T1.Hd, T1.H, T.P⟩ d _ (S1.unpinned e1.f e1.p nF q1.1) (pin_ext e1 rfl) r1 q1.2⟩
theorem sf_pin {i : Nat} {t : TE} {w : WF} (h : SF Γ t w) : SF Γ t (wPinF i w) := ⟨fun {T σ ρ Q Q'} S hw q => by
  obtain ⟨p, vs, l, hi, hs, hp, r, nF, n0, nd, hw⟩ := S.ownAt hw
  exact h.h (T := ⟨upd T.F p (.lst vs), T.H0, T.Hd, T.H, fun q => q = p ∨ T.P q⟩) (S.pinned hi hs hp r nF n0 nd) (hw p) fun p1 vs1 T1 d ρ1 S1 e1 hp1 nF1 n01 nd1 hn1 r1 q1 => by
    have sF : Same T.F T1.F := by rw [e1.f]; exact same_new nF
    refine q p1 vs1 ⟨T.F, T1.H0, T1.Hd, T1.H, T.P⟩ d _ (S1.unpinned e1.f e1.p nF q1.1) (pin_ext e1 rfl) hp1 (none_of_le sF nF1) n01 nd1 (fun j c ec pc => ?_) r1 q1.2
    rcases set_at ec with ⟨rfl, hl, rfl⟩ | ⟨hj, ec⟩
    · exact hn1 i _ (getD_of q1.1 (by simp)) rfl
    · exact hn1 j c ec pc⟩
theorem vs_pin {st : Stmt} {t : TS} {w : WS} (i : Nat) (h : VS Γ X st t w) : VS Γ X st t (wPinS i w) := ⟨h.pe, ss_pin h.se⟩
theorem ve_pin {e : Expr} {t : TE} {w : WE} (i : Nat) (h : VE Γ X e t w) : VE Γ X e t (wPinE i w) := ⟨h.pe, se_pin h.se⟩
theorem vf_pin {e : Expr} {t : TE} {w : WF} (i : Nat) (h : VF Γ X e t w) : VF Γ X e t (wPinF i w) := ⟨h.pe, sf_pin h.se⟩

/-! ### comprehensions -/
@[simp] def wipeV (ρ : Vn) : List Nat → Vn
  | [] => ρ
  | v :: vs => (wipeV ρ vs).set v .no
/-- behind the block the names outside stand as before -/
@[simp] def backV (ρ0 ρ : Vn) : List Nat → Vn
  | [] => ρ
  | v :: vs => match ρ0.getD v .no with
    | .val d => (backV ρ0 ρ vs).set v (.val d)
    | _ => backV ρ0 ρ vs
@[simp] def lcV (g : WG) (c : WT) (w : WE) (vs : List Nat) : List D → List D → Vn → (List D → Vn → Prop) → Prop
  | [], acc, ρ, Q => Q acc ρ
  | d :: ds, acc, ρ, Q => g d ρ fun ρ1 => c ρ1 fun b ρ2 => (b = true → w ρ2 fun y ρ3 => acc.length < sizeLine ∧ lcV g c w vs ds (acc ++ [y]) (wipeV ρ3 vs) Q) ∧ (b = false → lcV g c w vs ds acc (wipeV ρ2 vs) Q)
@[simp] def wLc (wi : WI) (g : WG) (c : WT) (w : WE) (vs : List Nat) : WF := fun ρ Q => wi ρ fun ds ρ1 => lcV g c w vs ds [] (wipeV ρ1 vs) fun l ρ2 => Q l (backV ρ1 ρ2 vs)
@[simp] def wYes : WT := fun ρ Q => Q true ρ
theorem st_yes : ST Γ tYes wYes := ⟨fun {T σ ρ Q Q'} S hw q => q true T ρ S .refl hw⟩
theorem wipe_at {σ : L2.St} {j : Nat} : ∀ {vs : List Nat}, (j ∉ vs → (wipe σ vs)[j]? = σ[j]?) ∧ (j ∈ vs → j < σ.length → (wipe σ vs)[j]? = some none)
  | [] => ⟨fun _ => rfl, fun h => by simp at h⟩
  | v :: vs => by
    obtain ⟨h1, h2⟩ := wipe_at (σ := σ) (j := j) (vs := vs)
    unfold wipe
    refine ⟨fun hj => ?_, fun hj hl => ?_⟩
    · rw [List.mem_cons, not_or] at hj
      rw [List.getElem?_set_ne (Ne.symm hj.1)]
      exact h1 hj.2
    · by_cases hv : v = j
      · subst hv
        rw [List.getElem?_set_self (by rw [wipe_length]; exact hl)]
      · rw [List.getElem?_set_ne hv]
        rcases List.mem_cons.mp hj with z | z
        · exact absurd z.symm hv
        · exact h2 z hl
theorem wipeV_length (ρ : Vn) : ∀ vs : List Nat, (wipeV ρ vs).length = ρ.length
  | [] => rfl
  | v :: vs => by unfold wipeV; rw [List.length_set, wipeV_length ρ vs]
theorem wipeV_at {ρ : Vn} {j : Nat} {c : Cell} : ∀ {vs : List Nat}, (wipeV ρ vs)[j]? = some c → c = .no ∨ (j ∉ vs ∧ ρ[j]? = some c)
  | [], h => .inr ⟨by simp, h⟩
  | v :: vs, h => by
    unfold wipeV at h
    rcases set_at h with ⟨rfl, hl, rfl⟩ | ⟨hj, h⟩
    · exact .inl rfl
    · rcases wipeV_at h with z | ⟨z, h⟩
      · exact .inl z
      · exact .inr ⟨by rw [List.mem_cons, not_or]; exact ⟨fun e => hj e.symm, z⟩, h⟩
/-- the block's own names forgotten -/
theorem Sv.wiped {σ' : L2.St} {vs : List Nat} (S : Sv Γ T σ ρ) (hl : σ'.length = σ.length) (hs : ∀ j, j ∉ vs → σ'[j]? = σ[j]?) : Sv Γ T σ' (wipeV ρ vs) := by
  refine ⟨S.ok, by rw [hl, S.len, wipeV_length], fun j c e => ?_, fun j k p c1 c2 e1 e2 p1 p2 e3 e4 => ?_⟩
  · rcases wipeV_at e with rfl | ⟨hj, e'⟩
    · have h : j < ρ.length := by
        obtain ⟨z, _⟩ := List.getElem?_eq_some_iff.mp e
        rwa [wipeV_length] at z
      exact ⟨_, List.getElem?_eq_getElem (by rw [hl, S.len]; exact h), trivial⟩
    · obtain ⟨s, e1, r⟩ := S.cell j c e'
      exact ⟨s, by rw [hs j hj]; exact e1, r⟩
  · rcases wipeV_at e1 with rfl | ⟨hj, e1⟩
    · cases p1
    · rcases wipeV_at e2 with rfl | ⟨hk, e2⟩
      · cases p2
      · rw [hs j hj] at e3
        rw [hs k hk] at e4
        exact S.dist j k p c1 c2 e1 e2 p1 p2 e3 e4
theorem wipe_eq {σ σ' : L2.St} {vs : List Nat} (hl : σ'.length = σ.length) (hs : ∀ j, j ∉ vs → σ'[j]? = σ[j]?) : wipe σ' vs = wipe σ vs := by
  apply List.ext_getElem?
  intro j
  by_cases hj : j ∈ vs
  · by_cases h : j < σ.length
    · rw [(wipe_at).2 hj h, (wipe_at).2 hj (by rw [hl]; exact h)]
    · rw [List.getElem?_eq_none (by rw [wipe_length, hl]; omega), List.getElem?_eq_none (by rw [wipe_length]; omega)]
  · rw [(wipe_at).1 hj, (wipe_at).1 hj, hs j hj]
theorem Sv.back {ρ0 : Vn} {T0 : Wo} (S0 : Sv Γ T0 σ ρ0) (e : Ext Γ T0 T) : ∀ {vs : List Nat}, Sv Γ T σ ρ → Sv Γ T σ (backV ρ0 ρ vs)
  | [], S => S
  | v :: vs, S => by
    unfold backV
    split
    · rename_i d ed
      refine (Sv.back S0 e S).re (fun s hs _ => ?_) fun z => nomatch z
      obtain ⟨s', e1, v, e2, r⟩ := S0.cell _ _ (getD_of ed (by simp))
      rw [hs] at e1; cases e1
      exact ⟨v, e2, R.ext e r⟩
    · exact Sv.back S0 e S
theorem Sv.reF {D : Addr} {o : HO} (S : Sv Γ T σ ρ) (hD : T.H D = some o) (nF : T.F D = none) (n0 : T.H0 D = none) (nd : T.Hd D = none) (hn : ∀ (j : Nat) (c : Cell), ρ[j]? = some c → c.priv = true → σ[j]? ≠ some (some (.ref D))) : Sv Γ ⟨upd T.F D o, T.H0, T.Hd, T.H, fun q => T.P q ∧ q ≠ D⟩ σ ρ := by
  refine ⟨⟨fun b x e => ?_, S.ok.s0, S.ok.sd, fun {b x} e => ?_, fun {b x} e => ?_, S.ok.zd⟩, S.len, fun j c e => ?_, S.dist⟩
  · dsimp only at e ⊢
    by_cases hb : b = D
    · subst hb; rw [upd_same] at e; cases e; exact hD
    · rw [upd_ne hb] at e; exact S.ok.sF _ _ e
  · dsimp only at e ⊢
    by_cases hb : b = D
    · subst hb; exact n0
    · rw [upd_ne hb] at e; exact S.ok.F0 e
  · dsimp only at e ⊢
    by_cases hb : b = D
    · subst hb; exact nd
    · rw [upd_ne hb] at e; exact S.ok.Fd e
  · obtain ⟨s, e1, r1⟩ := S.cell j c e
    refine ⟨s, e1, ?_⟩
    have nq : ∀ q, c.priv = true → s = some (.ref q) → q ≠ D := fun q pq z z2 => hn j c e pq (by rw [e1, z, z2])
    cases c with
    | no => trivial
    | val d => exact r1
    | own l => obtain ⟨q, us, e2, e3, r, m1, m2⟩ := r1; exact ⟨q, us, e2, e3, r, (by dsimp only; rw [upd_ne (nq q rfl e2)]; exact m1), m2⟩
    | pin q l => obtain ⟨us, e2, e0, e3, r⟩ := r1; exact ⟨us, e2, ⟨e0, nq q rfl e2⟩, (by dsimp only; rw [upd_ne (nq q rfl e2)]; exact e3), r⟩
    | obj q c fs => obtain ⟨C, dx, vf, e2, e3, m, cl, na, r, m1, m2⟩ := r1; exact ⟨C, dx, vf, e2, e3, m, cl, na, r, (by dsimp only; rw [upd_ne (nq q rfl e2)]; exact m1), m2⟩
    | dic l => obtain ⟨q, us, e2, e3, r, m1, m2⟩ := r1; exact ⟨q, us, e2, e3, r, (by dsimp only; rw [upd_ne (nq q rfl e2)]; exact m1), m2⟩
/-- the accumulator is stored; the outer part is as it was -/
theorem Sv.unreF {F : Hp} {P : Addr → Prop} {D : Addr} {o o' : HO} (S : Sv Γ T σ ρ) (hF : T.F = upd F D o) (hP : T.P = fun q => P q ∧ q ≠ D) (nF : F D = none) :
    Sv Γ ⟨F, T.H0, T.Hd, upd T.H D o', P⟩ σ ρ ∧ T.H D = some o ∧ T.H0 D = none ∧ T.Hd D = none := by
  have sF : Same F T.F := by rw [hF]; exact same_new nF
  have fD : T.F D = some o := by rw [hF]; exact upd_same
  have n0 := S.ok.F0 fD
  have nd := S.ok.Fd fD
  have ne : ∀ {A : Hp} {b x}, A D = none → A b = some x → b ≠ D := fun hn e z => by rw [z, hn] at e; cases e
  refine ⟨⟨⟨fun b x e => ?_, fun b x e => ?_, fun b x e => ?_, fun {b x} e => S.ok.F0 (sF _ _ e), fun {b x} e => S.ok.Fd (sF _ _ e), S.ok.zd⟩, S.len, fun j c e => ?_, S.dist⟩, S.ok.sF _ _ fD, n0, nd⟩
  · dsimp only at e ⊢; rw [upd_ne (ne nF e)]; exact S.ok.sF _ _ (sF _ _ e)
  · dsimp only at e ⊢; rw [upd_ne (ne n0 e)]; exact S.ok.s0 _ _ e
  · dsimp only at e ⊢; rw [upd_ne (ne nd e)]; exact S.ok.sd _ _ e
  · obtain ⟨s, e1, r1⟩ := S.cell j c e
    refine ⟨s, e1, ?_⟩
    have nq : ∀ {q}, T.F q = none → q ≠ D := fun m z => by rw [z, fD] at m; cases m
    cases c with
    | no => trivial
    | val d => exact r1
    | own l => obtain ⟨q, us, e2, e3, r, m1, m2⟩ := r1; exact ⟨q, us, e2, (by dsimp only; rw [upd_ne (nq m1)]; exact e3), r, none_of_le sF m1, m2⟩
    | pin q l => obtain ⟨us, e2, e0, e3, r⟩ := r1; rw [hP] at e0; exact ⟨us, e2, e0.1, (by dsimp only; rw [hF, upd_ne e0.2] at e3; exact e3), r⟩
    | obj q c fs => obtain ⟨C, dx, vf, e2, e3, m, cl, na, r, m1, m2⟩ := r1; exact ⟨C, dx, vf, e2, (by dsimp only; rw [upd_ne (nq m1)]; exact e3), m, cl, na, r, none_of_le sF m1, m2⟩
    | dic l => obtain ⟨q, us, e2, e3, r, m1, m2⟩ := r1; exact ⟨q, us, e2, (by dsimp only; rw [upd_ne (nq m1)]; exact e3), r, none_of_le sF m1, m2⟩
theorem Sv.rewiped {σ' : L2.St} {vs : List Nat} {ρ : Vn} (S : Sv Γ T σ (wipeV ρ vs)) (hl : σ'.length = σ.length) (hs : ∀ j, j ∉ vs → σ'[j]? = σ[j]?) : Sv Γ T σ' (wipeV ρ vs) := by
  refine ⟨S.ok, by rw [hl, S.len], fun j c e => ?_, fun j k p c1 c2 e1 e2 p1 p2 e3 e4 => ?_⟩
  · rcases wipeV_at e with rfl | ⟨hj, _⟩
    · have h : j < ρ.length := by
        obtain ⟨z, _⟩ := List.getElem?_eq_some_iff.mp e
        rwa [wipeV_length] at z
      exact ⟨_, List.getElem?_eq_getElem (by rw [hl, S.len, wipeV_length]; exact h), trivial⟩
    · obtain ⟨s, e1, r⟩ := S.cell j c e
      exact ⟨s, by rw [hs j hj]; exact e1, r⟩
  · rcases wipeV_at e1 with rfl | ⟨hj, _⟩
    · cases p1
    · rcases wipeV_at e2 with rfl | ⟨hk, _⟩
      · cases p2
      · rw [hs j hj] at e3
        rw [hs k hk] at e4
        exact S.dist j k p c1 c2 e1 e2 p1 p2 e3 e4
theorem back_priv {ρ0 : Vn} {j : Nat} {c : Cell} : ∀ {vs : List Nat} {ρ : Vn}, (backV ρ0 ρ vs)[j]? = some c → c.priv = true → ρ[j]? = some c
  | [], _, h, _ => h
  | v :: vs, ρ, h, pc => by
    unfold backV at h
    split at h
    · rcases set_at h with ⟨rfl, hl, rfl⟩ | ⟨hj, h⟩
      · cases pc
      · exact back_priv h pc
    · exact back_priv h pc
/-- nobody's slot holds what stands in the outer part, but pins -/
theorem sf_lc {ti : TI} {g : TG} {tt : TT} {te : TE} {ts vs : List Nat} {wi : WI} {wg : WG} {wc : WT} {we : WE} (hi : SI Γ ti wi) (hg : SG Γ g ts wg) (hc : ST Γ tt wc) (he : SE Γ te we) (hts : ∀ j ∈ ts, j ∈ vs) : SF Γ (tLc ti g tt te vs) (wLc wi wg wc we vs) := ⟨fun {T σ ρ Q Q'} S hw q => hi.h S hw fun J T1 ds ρ1 S1 e1 its q1 => by
  intro D nD
  have nF := none_of_le S1.ok.sF nD
  have n0 := none_of_le S1.ok.s0 nD
  have nd := none_of_le S1.ok.sd nD
  have notD : ∀ (j : Nat) (c : Cell), (wipeV ρ1 vs)[j]? = some c → c.priv = true → σ[j]? ≠ some (some (.ref D)) := fun j c ec pc => by
    rcases wipeV_at ec with rfl | ⟨_, ec⟩
    · cases pc
    · exact fresh_priv S1 nD j c ec pc
  refine ⟨fun i m H' => ∃ T' ρ' us acc, T'.H = H' ∧ Sv Γ T' σ (wipeV ρ' vs) ∧ Ext Γ T1 T' ∧ H' D = some (.lst us) ∧ T'.H0 D = none ∧ T'.Hd D = none ∧ (∀ (j : Nat) (c : Cell), (wipeV ρ' vs)[j]? = some c → c.priv = true → σ[j]? ≠ some (some (.ref D))) ∧ RA Γ T'.H0 T'.Hd us acc ∧ lcV wg wc we vs (ds.drop i) acc (wipeV ρ' vs) (fun l ρ2 => Q l (backV ρ1 ρ2 vs)) ∧ m = ds.length - i ∧ i ≤ ds.length, ⟨_, ⟨T1.F, T1.H0, T1.Hd, upd T1.H D (.lst []), T1.P⟩, ρ1, [], [], rfl, ?_, (Gr.priv S1.ok nD).ext, upd_same, n0, nd, notD, .nil, q1, rfl, Nat.zero_le _⟩, ?_⟩
  · exact (S1.grow (Gr.priv S1.ok nD)).wiped rfl fun _ _ => rfl
  rintro i m H' ⟨T', ρ', us, acc, rfl, S', e', hD, n0', nd', nn', ra, q', rfl, hi⟩
  have lat := e'.lat S'.ok
  have nF' : T'.F D = none := by rw [e'.f]; exact nF
  by_cases hlt : i < ds.length
  · rw [List.drop_eq_getElem_cons hlt] at q'
    -- the turn, the accumulator in the outer part
    have Sp := S'.reF hD nF' n0' nd' nn'
    have latp : Lat Γ T1 ⟨upd T'.F D (.lst us), T'.H0, T'.Hd, T'.H, fun q => T'.P q ∧ q ≠ D⟩ := ⟨Sp.ok, lat.f.trans (same_new nF'), lat.s0, lat.da⟩
    refine .inr ⟨its.go _ latp i hlt, fun H2 => ∃ T' ρ' us acc, T'.H = H2 ∧ Sv Γ T' σ (wipeV ρ' vs) ∧ Ext Γ T1 T' ∧ H2 D = some (.lst us) ∧ T'.H0 D = none ∧ T'.Hd D = none ∧ (∀ (j : Nat) (c : Cell), (wipeV ρ' vs)[j]? = some c → c.priv = true → σ[j]? ≠ some (some (.ref D))) ∧ RA Γ T'.H0 T'.Hd us acc ∧ lcV wg wc we vs (ds.drop (i + 1)) acc (wipeV ρ' vs) (fun l ρ2 => Q l (backV ρ1 ρ2 vs)), ?_, fun x H2 hy => ?_⟩
    · rintro H2 ⟨T2, ρ2, us2, acc2, h1, h2, h3, h4, h5, h6, h7, h8, h9⟩
      exact ⟨ds.length - (i + 1), by omega, T2, ρ2, us2, acc2, h1, h2, h3, h4, h5, h6, h7, h8, h9, rfl, hlt⟩
    · obtain ⟨T2, g2, rfl, r2⟩ := its.yld _ latp i ds[i] x H2 (List.getElem?_eq_getElem hlt) hy
      have S2 := Sp.grow g2
      have S2w : Sv Γ T2 (wipe σ vs) (wipeV ρ' vs) := S2.rewiped (wipe_length σ vs) fun j hj => (wipe_at).1 hj
      have E2 : Ext Γ ⟨upd T'.F D (.lst us), T'.H0, T'.Hd, T'.H, fun q => T'.P q ∧ q ≠ D⟩ T2 := g2.ext
      refine hg.h S2w r2 q' fun σ3 ρ3 S3 so3 q3 => ?_
      have l3 : σ3.length = σ.length := so3.1.trans (wipe_length σ vs)
      have o3 : ∀ j, j ∉ vs → σ3[j]? = σ[j]? := fun j hj => (so3.2 j fun z => hj (hts j z)).trans ((wipe_at).1 hj)
      -- behind a turn: the accumulator again one's own
      have fin : ∀ (T5 : Wo) (ρ5 : Vn) (us' : List V) (acc' : List Vl.D), Sv Γ T5 σ3 ρ5 → Ext Γ ⟨upd T'.F D (.lst us), T'.H0, T'.Hd, T'.H, fun q => T'.P q ∧ q ≠ D⟩ T5 → RA Γ T5.H0 T5.Hd us' acc' → lcV wg wc we vs (ds.drop (i + 1)) acc' (wipeV ρ5 vs) (fun l ρ2 => Q l (backV ρ1 ρ2 vs)) → T5.H D = some (.lst us) ∧
          ∃ T' ρ' us'' acc, T'.H = upd T5.H D (.lst us') ∧ Sv Γ T' σ (wipeV ρ' vs) ∧ Ext Γ T1 T' ∧ upd T5.H D (.lst us') D = some (.lst us'') ∧ T'.H0 D = none ∧ T'.Hd D = none ∧ (∀ (j : Nat) (c : Cell), (wipeV ρ' vs)[j]? = some c → c.priv = true → σ[j]? ≠ some (some (.ref D))) ∧ RA Γ T'.H0 T'.Hd us'' acc ∧ lcV wg wc we vs (ds.drop (i + 1)) acc (wipeV ρ' vs) (fun l ρ2 => Q l (backV ρ1 ρ2 vs)) := by
        intro T5 ρ5 us' acc' S5 E5 r5 q5
        obtain ⟨S6, hD5, n05, nd5⟩ := S5.unreF (o' := .lst us') E5.f E5.p nF'
        have S7 := S6.wiped (σ' := σ) (vs := vs) l3.symm fun j hj => (o3 j hj).symm
        have fD : T5.F D = some (.lst us) := by rw [E5.f]; exact upd_same
        refine ⟨hD5, _, ρ5, us', acc', rfl, S7, ⟨e'.f, e'.p, e'.s0.trans E5.s0, fun a h => E5.da a (e'.da a h)⟩, upd_same, n05, nd5, fun j c ec pc z => ?_, r5, q5⟩
        rcases wipeV_at ec with rfl | ⟨hj, ec⟩
        · cases pc
        obtain ⟨s, e1, r⟩ := S5.cell j c ec
        rw [o3 j hj, z] at e1
        cases e1
        cases c with
        | own l => obtain ⟨q, vs, e2, _, _, m1, _⟩ := r; cases e2; rw [fD] at m1; cases m1
        | obj q c l => obtain ⟨C, dx, vs, e2, _, _, _, _, _, m1, _⟩ := r; cases e2; rw [fD] at m1; cases m1
        | dic l => obtain ⟨q, vs, e2, _, _, m1, _⟩ := r; cases e2; rw [fD] at m1; cases m1
        | pin q l => obtain ⟨vs, e2, e0, _⟩ := r; cases e2; rw [E5.p] at e0; exact e0.2 rfl
        | _ => cases pc
      refine ⟨wipe_eq l3 o3, hc.h S3 q3 fun b T4 ρ4 S4 e4 q4 => ?_⟩
      have E4 := E2.trans e4
      cases b with
      | true =>
        refine iteT (he.h S4 (q4.1 rfl) fun y T5 d ρ5 S5 e5 r5 q5 => ?_)
        have E5 := E4.trans e5
        obtain ⟨hD5, N⟩ := fin T5 ρ5 (us ++ [y]) (acc ++ [d]) S5 E5 ((ra.mono E5.s0 E5.da).app (.cons r5 .nil)) q5.2
        exact ⟨us, hD5, by rw [ra.len]; exact q5.1, N⟩
      | false =>
        refine iteF ?_
        obtain ⟨hD5, N⟩ := fin T4 ρ4 us acc S4 E4 (ra.mono E4.s0 E4.da) (q4.2 rfl)
        have z : upd T4.H D (.lst us) = T4.H := by
          funext b
          by_cases hb : b = D
          · subst hb; rw [upd_same, hD5]
          · rw [upd_ne hb]
        rw [z] at N
        exact N
  · have z : i = ds.length := by omega
    subst z
    rw [List.drop_length] at q'
    refine .inl ⟨its.stop T' lat, ?_⟩
    exact q D us T' acc (backV ρ1 (wipeV ρ' vs) vs) (Sv.back S1 e' S') (e1.trans e') hD nF' n0' nd' (fun j c ec pc => nn' j c (back_priv ec pc) pc) ra q'⟩
variable {elt tg iter : Expr} {ifs : List Expr} {scope : Scope} {own : List (Str × Nat)} {pos : Pos} {ti : TI} {g : TG} {tt : TT} {te : TE} {ts : List Nat} {wi : WI} {wg : WG} {wc : WT} {we : WE}
structure VTs (Γ : Gx) (X : Cx) (ifs : List Expr) (t : TT) (w : WT) : Prop where
  pe : PTs X ifs t
  se : ST Γ t w
theorem vts_nil : VTs Γ X [] tYes wYes := ⟨pts_nil, st_yes⟩
theorem vts_one {c : Expr} {t : TT} {w : WT} (h : VT Γ X c t w) : VTs Γ X [c] t w := ⟨pts_one h.pe, h.se⟩
theorem vf_lc (hc : X.calm = true) (hN : X.N.Nodup) (hi : VI Γ X tg iter ti wi) (ok : BlkOk X.N X.env.scope scope own)
    (hg : ∀ (s : Shared) (H : Hp) (C : Addr) (cl : List (Str × Addr)) (fp : List Addr), VG Γ (X.blk s H scope (compEnvC scope cl C X.env) fp) tg g ts wg) (ht : ∀ (s : Shared) (H : Hp) (C : Addr) (cl : List (Str × Addr)) (fp : List Addr), VTs Γ (X.blk s H scope (compEnvC scope cl C X.env) fp) ifs tt wc)
    (he : ∀ (s : Shared) (H : Hp) (C : Addr) (cl : List (Str × Addr)) (fp : List Addr), VE Γ (X.blk s H scope (compEnvC scope cl C X.env) fp) elt te we) (hs : ∀ x, foldedSetIterable iter X.env x = pure x := by intro _; rfl) (hts : ∀ j ∈ ts, j ∈ own.map (·.2) := by decide) :
    VF Γ X (.ListComp elt [⟨tg, iter, ifs, 0⟩] scope pos) (tLc ti g tt te (own.map (·.2))) (wLc wi wg wc we (own.map (·.2))) :=
  ⟨pe_lc hc hN hi.pe ok (fun s H C cl fp => (hg s H C cl fp).pe) (fun s H C cl fp => (ht s H C cl fp).pe) (fun s H C cl fp => (he s H C cl fp).pe) hs, sf_lc hi.se (hg ({} : Shared) (fun _ => none) 0 [] []).se (ht ({} : Shared) (fun _ => none) 0 [] []).se (he ({} : Shared) (fun _ => none) 0 [] []).se hts⟩
theorem vs_setLc {i : Nat} {y : Str} {py : Pos} {spos : Pos} (hc : X.calm = true) (hN : X.N.Nodup) (hy : X.N[i]? = some y) (hyl : X.env.scope.names.lookup y = some .local)
    (hsw : swapsWith (.ListComp elt [⟨tg, iter, ifs, 0⟩] scope pos) (some (.Name y py)) spos.line X.env = pure true) (hi : VI Γ X tg iter ti wi) (ok : BlkOk X.N X.env.scope scope own)
    (hg : ∀ (s : Shared) (H : Hp) (C : Addr) (cl : List (Str × Addr)) (fp : List Addr), VG Γ (X.blk s H scope (compEnvC scope cl C X.env) fp) tg g ts wg) (ht : ∀ (s : Shared) (H : Hp) (C : Addr) (cl : List (Str × Addr)) (fp : List Addr), VTs Γ (X.blk s H scope (compEnvC scope cl C X.env) fp) ifs tt wc)
    (he : ∀ (s : Shared) (H : Hp) (C : Addr) (cl : List (Str × Addr)) (fp : List Addr), VE Γ (X.blk s H scope (compEnvC scope cl C X.env) fp) elt te we) (hs : ∀ x, foldedSetIterable iter X.env x = pure x := by intro _; rfl) (hts : ∀ j ∈ ts, j ∈ own.map (·.2) := by decide) :
    VS Γ X (.Assign [.Name y py] (.ListComp elt [⟨tg, iter, ifs, 0⟩] scope pos) spos) (tAsg (tLc ti g tt te (own.map (·.2))) (gName i)) (wSetF i (wLc wi wg wc we (own.map (·.2)))) :=
  ⟨ps_setLc hc hN hy hyl hsw hi.pe ok (fun s H C cl fp => (hg s H C cl fp).pe) (fun s H C cl fp => (ht s H C cl fp).pe) (fun s H C cl fp => (he s H C cl fp).pe) hs, ss_setF (sf_lc hi.se (hg ({} : Shared) (fun _ => none) 0 [] []).se (ht ({} : Shared) (fun _ => none) 0 [] []).se (he ({} : Shared) (fun _ => none) 0 [] []).se hts)⟩
end
end Vl

namespace Vl
open PySem PySem.Spec PyProof.Rows L2 Hl

/-! ### calls of the text's own defs -/
abbrev WF1 := List D → (D → Prop) → Prop
mutual
/-- no list in it -/
def D.free : D → Bool
  | .tup l => D.freeL l
  | .lst _ => false
  | .scr _ => false
  | .dct _ => false
  | .set _ => false
  | .obj _ fs => D.freeF fs
  | _ => true
def D.freeL : List D → Bool
  | [] => true
  | d :: l => d.free && D.freeL l
def D.freeF : List (Str × D) → Bool
  | [] => true
  | (_, d) :: l => d.free && D.freeF l
end
section
variable {Γ : Gx} {X : Cx} {T : Wo} {σ : L2.St} {ρ : Vn}
/-- behind what leaves one's own as it is -/
theorem Sv.after {H0' Hd' H' : Hp} (S : Sv Γ T σ ρ) (ok : Wo.Ok ⟨T.F, H0', Hd', H', T.P⟩) (s0 : Same T.H0 H0') (da : ∀ a, Γ.DA T.Hd a → Γ.DA Hd' a)
    (hp : ∀ p x, T.H p = some x → T.H0 p = none → T.Hd p = none → H' p = some x ∧ H0' p = none ∧ Hd' p = none) : Sv Γ ⟨T.F, H0', Hd', H', T.P⟩ σ ρ := by
  refine ⟨ok, S.len, fun i c e => ?_, S.dist⟩
  obtain ⟨s, e1, r1⟩ := S.cell i c e
  refine ⟨s, e1, ?_⟩
  cases c with
  | no => trivial
  | val d => obtain ⟨v, e2, r⟩ := r1; exact ⟨v, e2, r.mono s0 da⟩
  | own l => obtain ⟨q, us, e2, e3, r, m1, m2, m3⟩ := r1; obtain ⟨h1, h2, h3⟩ := hp q _ e3 m2 m3; exact ⟨q, us, e2, h1, r.mono s0 da, m1, h2, h3⟩
  | pin q l => obtain ⟨us, e2, e0, e3, r⟩ := r1; exact ⟨us, e2, e0, e3, r.mono s0 da⟩
  | obj q c fs => obtain ⟨C, dx, vf, e2, e3, m, cl, na, r, m1, m2, m3⟩ := r1; obtain ⟨h1, h2, h3⟩ := hp q _ e3 m2 m3; exact ⟨C, dx, vf, e2, h1, m, cl, na, r.mono s0 da, m1, h2, h3⟩
  | dic l => obtain ⟨q, us, e2, e3, r, m1, m2, m3⟩ := r1; obtain ⟨h1, h2, h3⟩ := hp q _ e3 m2 m3; exact ⟨q, us, e2, h1, r.mono s0 da, m1, h2, h3⟩
/-- what a def promises: by its meaning W -/
def spV (Γ : Gx) (W : WF1) : Sp := fun vs H Q _ => ∃ T ds P, T.H = H ∧ T.Ok ∧ RA Γ T.H0 T.Hd vs ds ∧ W ds P ∧ ∀ v T' d, T'.Ok → Ext Γ T T' → R Γ T'.H0 T'.Hd v d → P d → Q v T'.H
@[simp] def isO (ρ : Vn) : AI → Bool
  | .d _ => false
  | .sl i => match ρ.getD i .no with
    | .own _ => true
    | .pin _ _ => true
    | .dic _ => true
    | _ => false
@[simp] def wCall (W : WF1) (dd : List D) (w : WA) : WE := fun ρ Q => w ρ fun as ρ1 => rsN ρ1 as fun ds => W (ds ++ dd) fun d => (as.any (isO ρ1) = true → d.free = true) ∧ Q d ρ1
/-- addresses of one's own lists among the arguments -/
def Lent (σ : L2.St) (ρ : Vn) (as : List AI) (b : Addr) : Prop := ∃ i, AI.sl i ∈ as ∧ ((∃ l, ρ.getD i .no = .own l) ∨ (∃ q l, ρ.getD i .no = .pin q l) ∨ ∃ l, ρ.getD i .no = .dic l) ∧ σ[i]? = some (some (.ref b))
theorem Lent.at {as : List AI} {b : Addr} (S : Sv Γ T σ ρ) (h : Lent σ ρ as b) : ∃ o, T.H b = some o ∧ ((∃ vs, o = .lst vs) ∨ ∃ vs, o = .dK vs) ∧ T.H0 b = none ∧ T.Hd b = none := by
  obtain ⟨i, _, h, hs⟩ := h
  rcases h with ⟨l, e⟩ | ⟨q, l, e⟩ | ⟨l, e⟩
  · obtain ⟨s, e1, p, vs, e2, e3, r, n1, n2, n3⟩ := S.cell i _ (getD_of e (by simp))
    rw [hs] at e1; cases e1; cases e2
    exact ⟨_, e3, .inl ⟨vs, rfl⟩, n2, n3⟩
  · obtain ⟨s, e1, vs, e2, e0, e3, r⟩ := S.cell i _ (getD_of e (by simp))
    rw [hs] at e1; cases e1; cases e2
    exact ⟨_, S.ok.sF _ _ e3, .inl ⟨vs, rfl⟩, S.ok.F0 e3, S.ok.Fd e3⟩
  · obtain ⟨s, e1, p, vs, e2, e3, r, n1, n2, n3⟩ := S.cell i _ (getD_of e (by simp))
    rw [hs] at e1; cases e1; cases e2
    exact ⟨_, e3, .inr ⟨vs, rfl⟩, n2, n3⟩
open Classical in
noncomputable def lentH (T : Wo) (σ : L2.St) (ρ : Vn) (as : List AI) : Hp := fun b => if Lent σ ρ as b then T.H b else T.H0 b
open Classical in
theorem lentH_yes {as : List AI} {b : Addr} (h : Lent σ ρ as b) : lentH T σ ρ as b = T.H b := if_pos h
open Classical in
theorem lentH_no {as : List AI} {b : Addr} (h : ¬ Lent σ ρ as b) : lentH T σ ρ as b = T.H0 b := if_neg h
theorem lentH_same {as : List AI} (S : Sv Γ T σ ρ) : Same T.H0 (lentH T σ ρ as) := fun b x e => by
  by_cases h : Lent σ ρ as b
  · obtain ⟨vs, _, _, n, _⟩ := h.at S
    rw [n] at e; cases e
  · rw [lentH_no h]; exact e
theorem lent_args {as0 : List AI} (S : Sv Γ T σ ρ) : ∀ {vs : List V} {as : List AI} {k : List D → Prop}, (∀ a ∈ as, a ∈ as0) → ARs Γ T σ vs as → rsN ρ as k → ∃ ds, RA Γ (lentH T σ ρ as0) T.Hd vs ds ∧ k ds
  | _, _, _, _, .nil, h => ⟨[], .nil, h⟩
  | _, .d d :: as, _, hm, .cons a r, h => by
    obtain ⟨ds, r2, h⟩ := lent_args S (fun a h => hm a (List.mem_cons_of_mem _ h)) r h
    exact ⟨d :: ds, .cons (R.mono (lentH_same S) (fun _ h => h) a) r2, h⟩
  | v :: vs, .sl i :: as, _, hm, .cons a r, h => by
    have h : cRd (ρ.getD i .no) fun d => rsN ρ as fun ds => _ := h
    cases e : ρ.getD i .no with
    | val d =>
      rw [e] at h
      obtain ⟨s, e1, v', e2, rv⟩ := S.cell i _ (getD_of e (by simp))
      rw [show σ[i]? = some (some v) from a] at e1
      cases e1; cases e2
      obtain ⟨ds, r2, h⟩ := lent_args S (fun a h => hm a (List.mem_cons_of_mem _ h)) r h
      exact ⟨_, .cons (R.mono (lentH_same S) (fun _ h => h) rv) r2, h⟩
    | own l =>
      rw [e] at h
      obtain ⟨s, e1, p, us, e2, hp, rv, n⟩ := S.cell i _ (getD_of e (by simp))
      rw [show σ[i]? = some (some v) from a] at e1
      cases e1; cases e2
      obtain ⟨ds, r2, h⟩ := lent_args S (fun a h => hm a (List.mem_cons_of_mem _ h)) r h
      exact ⟨_, .cons (.lst (by rw [lentH_yes ⟨i, hm _ (List.mem_cons_self ..), .inl ⟨l, e⟩, a⟩]; exact hp) (rv.mono (lentH_same S) fun _ h => h)) r2, h⟩
    | pin q l =>
      rw [e] at h
      obtain ⟨s, e1, us, e2, e0, hp, rv⟩ := S.cell i _ (getD_of e (by simp))
      rw [show σ[i]? = some (some v) from a] at e1
      cases e1; cases e2
      obtain ⟨ds, r2, h⟩ := lent_args S (fun a h => hm a (List.mem_cons_of_mem _ h)) r h
      exact ⟨_, .cons (.lst (by rw [lentH_yes ⟨i, hm _ (List.mem_cons_self ..), .inr (.inl ⟨_, l, e⟩), a⟩]; exact S.ok.sF _ _ hp) (rv.mono (lentH_same S) fun _ h => h)) r2, h⟩
    | dic l =>
      rw [e] at h
      obtain ⟨s, e1, p, us, e2, hp, rv, n⟩ := S.cell i _ (getD_of e (by simp))
      rw [show σ[i]? = some (some v) from a] at e1
      cases e1; cases e2
      obtain ⟨ds, r2, h⟩ := lent_args S (fun a h => hm a (List.mem_cons_of_mem _ h)) r h
      exact ⟨_, .cons (.dct (by rw [lentH_yes ⟨i, hm _ (List.mem_cons_self ..), .inr (.inr ⟨l, e⟩), a⟩]; exact hp) (rv.mono (lentH_same S) fun _ h => h)) r2, h⟩
    | _ => rw [e] at h; exact h.elim
/-- a value without lists stands on what is no list -/
theorem free_sub {H0 H0' Hd : Hp} {L : Addr → Prop} (hL : ∀ b, L b → ∃ o, H0 b = some o ∧ ((∃ vs, o = .lst vs) ∨ ∃ vs, o = .dK vs)) (hn : ∀ b, ¬ L b → H0' b = H0 b) :
    (∀ {v : V} {d : D}, R Γ H0 Hd v d → d.free = true → R Γ H0' Hd v d) := by
  intro v d h
  refine R.rec (motive_1 := fun v d _ => d.free = true → R Γ H0' Hd v d) (motive_2 := fun vs l _ => D.freeL l = true → RA Γ H0' Hd vs l) (motive_3 := fun vs l _ => D.freeF l = true → RF Γ H0' Hd vs l) (motive_4 := fun vs l _ => True) ?_ ?_ ?_ ?_ ?_ ?_ ?_ ?_ ?_ ?_ ?_ ?_ ?_ ?_ ?_ ?_ ?_ h
  · exact fun _ => .non
  · exact fun b _ => .bl b
  · exact fun b _ => .int b
  · exact fun b _ => .str b
  · intro a vs l hs ra ih f
    refine .tup ?_ (ih f)
    rcases hs with (hs | ⟨o, hs⟩) | hs
    · exact .inl (.inl (by rw [hn a fun z => by obtain ⟨o, e, ⟨vs, rfl⟩ | ⟨vs, rfl⟩⟩ := hL a z <;> (rw [hs] at e; cases e)]; exact hs))
    · exact .inl (.inr ⟨o, by rw [hn a fun z => by obtain ⟨o, e, ⟨vs, rfl⟩ | ⟨vs, rfl⟩⟩ := hL a z <;> (rw [hs] at e; cases e)]; exact hs⟩)
    · exact .inr hs
  · intro a vs l hs ra ih f
    cases f
  · intro a C dx vf c df hs m cl na ra ih f
    exact .obj (by rw [hn a fun z => by obtain ⟨o, e, ⟨vs, rfl⟩ | ⟨vs, rfl⟩⟩ := hL a z <;> (rw [hs] at e; cases e)]; exact hs) m cl na (ih f)
  · exact fun h _ => .hnd h
  · intro a ns h f
    cases f
  · intro a vk dk hs ra ih f
    cases f
  · intro a ns c hs f
    cases f
  · exact fun _ => .nil
  · intro v d vs l h t ih1 ih2 f
    have f : (d.free && D.freeL l) = true := f
    rw [Bool.and_eq_true] at f
    exact .cons (ih1 f.1) (ih2 f.2)
  · exact fun _ => .nil
  · intro g v d vs l h t ih1 ih2 f
    have f : (d.free && D.freeF l) = true := f
    rw [Bool.and_eq_true] at f
    exact .cons (ih1 f.1) (ih2 f.2)
  · trivial
  · intros; trivial
/-- the outer part for a callee -/
def frH (H0 Hd H : Hp) : Hp := fun b => match H0 b, Hd b with
  | none, none => H b
  | _, _ => none
theorem frH_yes {H0 Hd H : Hp} {b : Addr} (h : H0 b = none) (h' : Hd b = none) : frH H0 Hd H b = H b := by unfold frH; rw [h, h']
theorem frH_some {H0 Hd H : Hp} {b : Addr} {x : HO} (h : frH H0 Hd H b = some x) : H0 b = none ∧ Hd b = none ∧ H b = some x := by
  unfold frH at h
  cases e : H0 b with
  | some y => rw [e] at h; cases h
  | none =>
    cases e' : Hd b with
    | some y => rw [e, e'] at h; cases h
    | none => rw [e, e'] at h; exact ⟨rfl, rfl, h⟩
theorem Sv.call {as : List AI} {vs : List V} {dv : List V} {dd : List D} {W : WF1} {Q : D → Prop} {Q' : VK} {E : XK} (S : Sv Γ T σ ρ) (ha : ARs Γ T σ vs as) (hd : ∀ H0 Hd, RA Γ H0 Hd dv dd)
    (h : Vl.rsN ρ as fun ds => W (ds ++ dd) fun d => (as.any (isO ρ) = true → d.free = true) ∧ Q d) (q : ∀ v T' d, Sv Γ T' σ ρ → Ext Γ T T' → R Γ T'.H0 T'.Hd v d → Q d → Q' v T'.H) : spV Γ W (vs ++ dv) T.H Q' E := by
  obtain ⟨ds, ra, h⟩ := lent_args (as0 := as) S (fun _ h => h) ha h
  have hz : ∀ {b x}, lentH T σ ρ as b = some x → T.H b = some x ∧ T.Hd b = none := fun {b x} e => by
    by_cases hl : Lent σ ρ as b
    · rw [lentH_yes hl] at e; exact ⟨e, (hl.at S).choose_spec.2.2.2⟩
    · rw [lentH_no hl] at e; exact ⟨S.ok.s0 _ _ e, S.ok.zd e⟩
  refine ⟨⟨frH (lentH T σ ρ as) T.Hd T.H, lentH T σ ρ as, T.Hd, T.H, fun _ => False⟩, ds ++ dd, _, rfl, ⟨fun b x e => (frH_some e).2.2, fun b x e => (hz e).1, S.ok.sd, fun {b x} e => (frH_some e).1, fun {b x} e => (frH_some e).2.1, fun {b x} e => (hz e).2⟩, ra.app (hd _ _), h, ?_⟩
  intro v T' d ok e r hQ
  have sL : Same (lentH T σ ρ as) T'.H0 := e.s0
  have fF : ∀ {b x}, T.H b = some x → T.H0 b = none → T.Hd b = none → ¬ Lent σ ρ as b → T'.F b = some x := fun {b x} e1 e2 e3 e4 => by
    rw [e.f]
    show frH (lentH T σ ρ as) T.Hd T.H b = some x
    rw [frH_yes (by rw [lentH_no e4]; exact e2) e3]; exact e1
  have lL : ∀ {b}, Lent σ ρ as b → ∃ us, T.H b = some us ∧ ((∃ vs, us = .lst vs) ∨ ∃ vs, us = .dK vs) ∧ T.H0 b = none ∧ T.Hd b = none ∧ T'.H0 b = some us := fun {b} hl => by
    obtain ⟨us, h1, hk, h2, h3⟩ := hl.at S
    exact ⟨us, h1, hk, h2, h3, sL _ _ (by rw [lentH_yes hl]; exact h1)⟩
  let H0n : Hp := fun b => open Classical in if Lent σ ρ as b then T.H0 b else T'.H0 b
  have ny : ∀ {b}, Lent σ ρ as b → H0n b = none := fun {b} hl => by
    show (open Classical in if Lent σ ρ as b then T.H0 b else T'.H0 b) = none
    rw [if_pos hl]; exact (hl.at S).choose_spec.2.2.1
  have nn : ∀ {b}, ¬ Lent σ ρ as b → H0n b = T'.H0 b := fun {b} hl => by
    show (open Classical in if Lent σ ρ as b then T.H0 b else T'.H0 b) = _
    rw [if_neg hl]
  have Fout : ∀ {b x}, T.F b = some x → T'.H b = some x ∧ H0n b = none ∧ T'.Hd b = none := fun {b x} eF => by
    by_cases hl : Lent σ ρ as b
    · obtain ⟨us, h1, _, h2, h3, h4⟩ := lL hl
      have h5 := S.ok.sF _ _ eF
      rw [h1] at h5; cases h5
      exact ⟨ok.s0 _ _ h4, ny hl, ok.zd h4⟩
    · have h5 := fF (S.ok.sF _ _ eF) (S.ok.F0 eF) (S.ok.Fd eF) hl
      exact ⟨ok.sF _ _ h5, by rw [nn hl]; exact ok.F0 h5, ok.Fd h5⟩
  have okn : Wo.Ok ⟨T.F, H0n, T'.Hd, T'.H, T.P⟩ := by
    refine ⟨fun b x e => (Fout e).1, fun b x e => ?_, ok.sd, fun {b x} e => (Fout e).2.1, fun {b x} e => (Fout e).2.2, fun {b x} e => ?_⟩
    · by_cases hl : Lent σ ρ as b
      · dsimp only at e; rw [ny hl] at e; cases e
      · dsimp only at e; rw [nn hl] at e; exact ok.s0 _ _ e
    · by_cases hl : Lent σ ρ as b
      · dsimp only at e; rw [ny hl] at e; cases e
      · dsimp only at e; rw [nn hl] at e; exact ok.zd e
  have s0n : Same T.H0 H0n := fun b x e => by
    by_cases hl : Lent σ ρ as b
    · rw [(hl.at S).choose_spec.2.2.1] at e; cases e
    · rw [nn hl]; exact sL _ _ (by rw [lentH_no hl]; exact e)
  have S' : Sv Γ ⟨T.F, H0n, T'.Hd, T'.H, T.P⟩ σ ρ := S.after okn s0n e.da fun p x h1 h2 h3 => by
    by_cases hl : Lent σ ρ as p
    · obtain ⟨us, k1, _, k2, k3, k4⟩ := lL hl
      rw [h1] at k1; cases k1
      exact ⟨ok.s0 _ _ k4, ny hl, ok.zd k4⟩
    · have h5 := fF h1 h2 h3 hl
      exact ⟨ok.sF _ _ h5, by rw [nn hl]; exact ok.F0 h5, ok.Fd h5⟩
  refine q v ⟨T.F, H0n, T'.Hd, T'.H, T.P⟩ d S' ⟨rfl, rfl, s0n, e.da⟩ ?_ hQ.2
  by_cases hany : as.any (isO ρ) = true
  · exact free_sub (L := Lent σ ρ as) (fun b hl => by obtain ⟨us, _, hk, _, _, h4⟩ := lL hl; exact ⟨us, h4, hk⟩) (fun b hl => nn hl) r (hQ.1 hany)
  · have z : H0n = T'.H0 := by
      funext b
      by_cases hl : Lent σ ρ as b
      · refine absurd ?_ hany
        obtain ⟨i, hm, ho, _⟩ := hl
        refine List.any_eq_true.mpr ⟨_, hm, ?_⟩
        rcases ho with ⟨l, e⟩ | ⟨q, l, e⟩ | ⟨l, e⟩
        · show (match ρ.getD i .no with | .own _ => true | .pin _ _ => true | .dic _ => true | _ => false) = true
          rw [e]
        · show (match ρ.getD i .no with | .own _ => true | .pin _ _ => true | .dic _ => true | _ => false) = true
          rw [e]
        · show (match ρ.getD i .no with | .own _ => true | .pin _ _ => true | .dic _ => true | _ => false) = true
          rw [e]
      · exact nn hl
    show R Γ H0n T'.Hd v d
    rw [z]; exact r
theorem spV_len {W : WF1} {n : Nat} {vs : List V} {H : Hp} {Q : VK} {E : XK} (hW : ∀ {ds P}, W ds P → ds.length = n) (h : spV Γ W vs H Q E) : vs.length = n := by
  obtain ⟨T, ds, P, rfl, ok, ra, hw, q⟩ := h
  rw [ra.len]; exact hW hw
/-- a def's meaning by its body's -/
@[simp] def wDef (n m : Nat) (b : WS) : WF1 := fun ds Q => ds.length = n ∧ b { nx := fun _ => Q .non, rt := Q } (ds.map Cell.val ++ List.replicate (m - n) .no)
theorem start_sv {N : List Str} {vs : List V} {ds : List D} (ok : T.Ok) (ra : RA Γ T.H0 T.Hd vs ds) : Sv Γ T (L2.start N vs) (ds.map Cell.val ++ List.replicate (N.length - ds.length) .no) := by
  have hat : ∀ {i : Nat} {c : Cell}, (ds.map Cell.val ++ List.replicate (N.length - ds.length) Cell.no)[i]? = some c → c = .no ∨ ∃ d, c = .val d ∧ ds[i]? = some d ∧ i < ds.length := fun {i c} e => by
    by_cases hi : i < ds.length
    · rw [List.getElem?_append_left (by simpa using hi), List.getElem?_map] at e
      cases z : ds[i]? with
      | none => rw [z] at e; cases e
      | some d => rw [z] at e; cases e; exact .inr ⟨d, rfl, rfl, hi⟩
    · rw [List.getElem?_append_right (by simpa using hi), List.getElem?_replicate] at e
      split at e
      · cases e; exact .inl rfl
      · cases e
  refine ⟨ok, by simp [L2.start, ra.len], fun i c e => ?_, fun i j p c c' e1 e2 p1 p2 _ _ => ?_⟩
  · have hl : i < (L2.start N vs).length := by
      obtain ⟨z, _⟩ := List.getElem?_eq_some_iff.mp e
      simp [L2.start, ra.len] at z ⊢
      exact z
    rcases hat e with rfl | ⟨d, rfl, hd, hi⟩
    · exact ⟨_, List.getElem?_eq_getElem hl, trivial⟩
    · obtain ⟨v, hv, r⟩ := ra.get hd
      refine ⟨some v, ?_, v, rfl, r⟩
      unfold L2.start
      rw [List.getElem?_append_left (by simpa [ra.len] using hi), List.getElem?_map, hv]
      rfl
  · rcases hat e1 with rfl | ⟨d, rfl, _⟩ <;> cases p1
theorem okV {N : List Str} {body : List Stmt} {t : TS} {b : WS} {vs : List V} {H : Hp} {Q : VK} {E : XK} {n m : Nat} (hN : N.length = m) (hb : VB Γ X body t b) (h : spV Γ (wDef n m b) vs H Q E) :
    ∃ t, PSs X body t ∧ t { nx := fun _ H' => Q .non H', rt := Q } (L2.start N vs) H := by
  obtain ⟨T, ds, P, rfl, ok, ra, ⟨hl, hw⟩, q⟩ := h
  subst hl hN
  exact ⟨t, hb.pe, hb.se.h (start_sv ok ra) hw (fun T' σ' ρ' S' e' h' => q .non T' .non S'.ok e' .non h') (fun T' v d ok' e' r' h' => q v T' d ok' e' r' h') (fun _ _ _ _ _ h => h.elim) (fun _ _ _ _ _ h => h.elim)⟩
variable {CX : CXT} {k : Nat} {f C : Addr} {fd : FuncData} {ps : List Str} {W : WF1} {E : XK} {x : Str} {p pos : Pos} {e : Expr} {es : List Expr} {t : TA} {w : WA} {dv : List V} {ds : List Value} {dd : List D}
theorem se_call (hd : ∀ H0 Hd, RA Γ H0 Hd dv dd) (ha : SA Γ t w) : SE Γ (tCall (spV Γ W) dv E t) (wCall W dd w) := ⟨fun {T σ ρ Q Q'} S hw q => ha.h S hw fun vs T1 as ρ1 S1 e1 r1 q1 =>
  S1.call r1 hd q1 fun v T2 d S2 e2 r2 q2 => q v T2 d ρ1 S2 (e1.trans e2) r2 q2⟩
theorem ve_call (F : FnOk X.prog X.w X.K X.mg X.base CX k f fd ps (spV Γ W)) (hr : Room k X.A) (hg : Gl X x) (hm : X.mg x = some (.ref f)) (hk : PySem.W.keepIn X.K (.ref f) = true) (hb : Binds X.K fd ps ds) (hdv : Vals dv ds) (hd : ∀ H0 Hd, RA Γ H0 Hd dv dd) (hx : Passes CX X E)
    (ha : VA Γ X (e :: es) t w) (hdb : (x == ("__debug__" : Str)) = false := by decide) (he : starEach (e :: es) X.env = (false, eval e X.env) :: starEach es X.env := by rfl) (hpl : (backTo pos (starEach es X.env)).any (·.1) = false := by rfl) :
    VE Γ X (.Call (.Name x p) (e :: es) [] pos) (tCall (spV Γ W) dv E t) (wCall W dd w) := ⟨pe_call F hr hg hm hk hb hdv hx ha.pe hdb he hpl, se_call hd ha.se⟩
end
end Vl

namespace Vl
open PySem PySem.Spec PyProof.Rows L2 Hl

/-! ### lists of ints, of bools -/
def D.intO : D → Option Int
  | .int i => some i
  | _ => none
def D.blO : D → Option Bool
  | .bl i => some i
  | _ => none
def intsO (l : List D) : Option (List Int) := l.mapM D.intO
def blsO (l : List D) : Option (List Bool) := l.mapM D.blO
theorem intsO_map (ns : List Int) : intsO (ns.map D.int) = some ns := by
  unfold intsO
  induction ns with
  | nil => rfl
  | cons n ns ih => simp [D.intO, ih]
theorem blsO_map (ns : List Bool) : blsO (ns.map D.bl) = some ns := by
  unfold blsO
  induction ns with
  | nil => rfl
  | cons n ns ih => simp [D.blO, ih]
theorem intsO_eq : ∀ {l : List D} {ns : List Int}, intsO l = some ns → l = ns.map D.int
  | [], ns, h => by cases h; rfl
  | d :: l, ns, h => by
    unfold intsO at h
    rw [List.mapM_cons] at h
    cases d <;> first | cases h | skip
    rename_i i
    cases e : l.mapM D.intO with
    | none => rw [e] at h; cases h
    | some m =>
      rw [e] at h
      cases h
      rw [List.map_cons, ← intsO_eq (l := l) e]
theorem blsO_eq : ∀ {l : List D} {ns : List Bool}, blsO l = some ns → l = ns.map D.bl
  | [], ns, h => by cases h; rfl
  | d :: l, ns, h => by
    unfold blsO at h
    rw [List.mapM_cons] at h
    cases d <;> first | cases h | skip
    rename_i i
    cases e : l.mapM D.blO with
    | none => rw [e] at h; cases h
    | some m =>
      rw [e] at h
      cases h
      rw [List.map_cons, ← blsO_eq (l := l) e]
theorem RA.ints {Γ : Gx} {H0 Hd : Hp} : ∀ {ns : List Int} {vs : List V}, RA Γ H0 Hd vs (ns.map D.int) → vs = ns.map V.int
  | [], _, h => by cases h; rfl
  | n :: ns, _, h => by
    cases h with
    | cons h t => cases h; rw [List.map_cons, ← RA.ints t]
theorem RA.bls {Γ : Gx} {H0 Hd : Hp} : ∀ {ns : List Bool} {vs : List V}, RA Γ H0 Hd vs (ns.map D.bl) → vs = ns.map V.bl
  | [], _, h => by cases h; rfl
  | n :: ns, _, h => by
    cases h with
    | cons h t => cases h; rw [List.map_cons, ← RA.bls t]
theorem ra_ints {Γ : Gx} {H0 Hd : Hp} : ∀ (ns : List Int), RA Γ H0 Hd (ns.map V.int) (ns.map D.int)
  | [] => .nil
  | n :: ns => .cons (.int n) (ra_ints ns)
/-! ### sorted ints -/
def insI (x : Int) : List Int → List Int
  | [] => [x]
  | y :: r => if x ≤ y then x :: y :: r else y :: insI x r
def sortI : List Int → List Int
  | [] => []
  | x :: r => insI x (sortI r)
theorem insI_perm (x : Int) : ∀ l, (insI x l).Perm (x :: l)
  | [] => .refl _
  | y :: r => by
    unfold insI
    split
    · exact .refl _
    · exact ((insI_perm x r).cons y).trans (.swap x y r)
theorem sortI_perm : ∀ l, (sortI l).Perm l
  | [] => .refl _
  | x :: r => (insI_perm x _).trans ((sortI_perm r).cons x)
theorem insI_sorted (x : Int) : ∀ l, l.Pairwise (· ≤ ·) → (insI x l).Pairwise (· ≤ ·)
  | [], _ => by simp [insI]
  | y :: r, h => by
    unfold insI
    rw [List.pairwise_cons] at h
    split
    · rename_i hxy
      refine List.pairwise_cons.mpr ⟨fun z hz => ?_, List.pairwise_cons.mpr h⟩
      rcases List.mem_cons.mp hz with rfl | hz
      · exact hxy
      · exact Int.le_trans hxy (h.1 z hz)
    · rename_i hxy
      refine List.pairwise_cons.mpr ⟨fun z hz => ?_, insI_sorted x r h.2⟩
      rcases List.mem_cons.mp ((insI_perm x r).mem_iff.mp hz) with rfl | hz
      · omega
      · exact h.1 z hz
theorem sortI_sorted : ∀ l, (sortI l).Pairwise (· ≤ ·)
  | [] => .nil
  | x :: r => insI_sorted x _ (sortI_sorted r)
theorem perm_sorted_eq : ∀ {l m : List Int}, l.Perm m → l.Pairwise (· ≤ ·) → m.Pairwise (· ≤ ·) → l = m
  | [], m, h, _, _ => h.nil_eq
  | x :: l, [], h, _, _ => absurd h.length_eq (by simp)
  | x :: l, y :: m, h, h1, h2 => by
    rw [List.pairwise_cons] at h1 h2
    have e : x = y := by
      have hx : x ∈ y :: m := h.mem_iff.mp (List.mem_cons_self ..)
      have hy : y ∈ x :: l := h.mem_iff.mpr (List.mem_cons_self ..)
      rcases List.mem_cons.mp hx with e | hx
      · exact e
      · rcases List.mem_cons.mp hy with e | hy
        · exact e.symm
        · exact Int.le_antisymm (h1.1 y hy) (h2.1 x hx)
    subst e
    rw [perm_sorted_eq (List.Perm.cons_inv h) h1.2 h2.2]
/-! ### the built-in functions by values -/
@[simp] def gLen : GN
  | [.lst l], k => k (.int l.length)
  | [.tup l], k => k (.int l.length)
  | [.str z], k => z.length ≤ sizeLine ∧ k (.int z.length)
  | _, _ => False
@[simp] def gTuple : GN
  | [.lst l], k => k (.tup l)
  | [.tup l], k => k (.tup l)
  | _, _ => False
@[simp] def fList : FN
  | [.lst l], k => k l
  | [.tup l], k => k l
  | _, _ => False
@[simp] def gInt : GN
  | [.int i], k => k (.int i)
  | [.bl b], k => k (.int (if b then 1 else 0))
  | _, _ => False
@[simp] def gBool : GN
  | [.int i], k => k (.bl (i != 0))
  | [.bl b], k => k (.bl b)
  | _, _ => False
@[simp] def gAbs : GN
  | [.int i], k => k (.int i.natAbs)
  | _, _ => False
@[simp] def gSum : GN
  | [.lst l], k => oK (intsO l) fun ns => k (.int ns.sum)
  | _, _ => False
def maxI : List Int → Int
  | [] => 0
  | n :: ns => ns.foldl max n
def minI : List Int → Int
  | [] => 0
  | n :: ns => ns.foldl min n
@[simp] def gMax : GN
  | [.int i, .int j], k => k (.int (max i j))
  | [.int i, .int j, .int l], k => k (.int (max (max i j) l))
  | [.lst l], k => oK (intsO l) fun ns => 0 < ns.length ∧ k (.int (maxI ns))
  | [.tup l], k => oK (intsO l) fun ns => 0 < ns.length ∧ k (.int (maxI ns))
  | _, _ => False
@[simp] def gMin : GN
  | [.int i, .int j], k => k (.int (min i j))
  | [.int i, .int j, .int l], k => k (.int (min (min i j) l))
  | [.lst l], k => oK (intsO l) fun ns => 0 < ns.length ∧ k (.int (minI ns))
  | [.tup l], k => oK (intsO l) fun ns => 0 < ns.length ∧ k (.int (minI ns))
  | _, _ => False
theorem foldl_max : ∀ (ns : List Int) (n : Int), (ns.foldl max n = n ∨ ns.foldl max n ∈ ns) ∧ n ≤ ns.foldl max n ∧ ∀ y ∈ ns, y ≤ ns.foldl max n
  | [], n => ⟨.inl rfl, Int.le_refl _, fun _ h => by simp at h⟩
  | m :: ns, n => by
    obtain ⟨h1, h2, h3⟩ := foldl_max ns (max n m)
    rw [List.foldl_cons]
    refine ⟨?_, by omega, fun y hy => ?_⟩
    · rcases h1 with h1 | h1
      · rw [h1]
        by_cases z : m ≤ n
        · exact .inl (by omega)
        · exact .inr (by rw [show max n m = m by omega]; simp)
      · exact .inr (List.mem_cons_of_mem _ h1)
    · rcases List.mem_cons.mp hy with rfl | hy
      · omega
      · exact h3 y hy
theorem foldl_min : ∀ (ns : List Int) (n : Int), (ns.foldl min n = n ∨ ns.foldl min n ∈ ns) ∧ ns.foldl min n ≤ n ∧ ∀ y ∈ ns, ns.foldl min n ≤ y
  | [], n => ⟨.inl rfl, Int.le_refl _, fun _ h => by simp at h⟩
  | m :: ns, n => by
    obtain ⟨h1, h2, h3⟩ := foldl_min ns (min n m)
    rw [List.foldl_cons]
    refine ⟨?_, by omega, fun y hy => ?_⟩
    · rcases h1 with h1 | h1
      · rw [h1]
        by_cases z : n ≤ m
        · exact .inl (by omega)
        · exact .inr (by rw [show min n m = m by omega]; simp)
      · exact .inr (List.mem_cons_of_mem _ h1)
    · rcases List.mem_cons.mp hy with rfl | hy
      · omega
      · exact h3 y hy
theorem maxI_mem {ns : List Int} (h : 0 < ns.length) : maxI ns ∈ ns ∧ ∀ y ∈ ns, y ≤ maxI ns := by
  cases ns with
  | nil => simp at h
  | cons n ns =>
    obtain ⟨h1, h2, h3⟩ := foldl_max ns n
    refine ⟨?_, fun y hy => ?_⟩
    · rcases h1 with h1 | h1
      · exact List.mem_cons.mpr (.inl h1)
      · exact List.mem_cons_of_mem _ h1
    · rcases List.mem_cons.mp hy with rfl | hy
      · exact h2
      · exact h3 y hy
theorem minI_mem {ns : List Int} (h : 0 < ns.length) : minI ns ∈ ns ∧ ∀ y ∈ ns, minI ns ≤ y := by
  cases ns with
  | nil => simp at h
  | cons n ns =>
    obtain ⟨h1, h2, h3⟩ := foldl_min ns n
    refine ⟨?_, fun y hy => ?_⟩
    · rcases h1 with h1 | h1
      · exact List.mem_cons.mpr (.inl h1)
      · exact List.mem_cons_of_mem _ h1
    · rcases List.mem_cons.mp hy with rfl | hy
      · exact h2
      · exact h3 y hy
theorem maxI_is {ns : List Int} {m : Int} (h : m ∈ ns) (h' : ∀ y ∈ ns, y ≤ m) : m = maxI ns := by
  obtain ⟨h1, h2⟩ := maxI_mem (List.length_pos_of_mem h)
  exact Int.le_antisymm (h2 m h) (h' _ h1)
theorem minI_is {ns : List Int} {m : Int} (h : m ∈ ns) (h' : ∀ y ∈ ns, m ≤ y) : m = minI ns := by
  obtain ⟨h1, h2⟩ := minI_mem (List.length_pos_of_mem h)
  exact Int.le_antisymm (h' _ h1) (h2 m h)
@[simp] def gAll : GN
  | [.lst l], k => oK (blsO l) fun bs => k (.bl (bs.all id))
  | _, _ => False
@[simp] def gAny : GN
  | [.lst l], k => oK (blsO l) fun bs => k (.bl (bs.any id))
  | _, _ => False
@[simp] def fSorted : FN
  | [.lst l], k => oK (intsO l) fun ns => k ((sortI ns).map D.int)
  | [.tup l], k => oK (intsO l) fun ns => k ((sortI ns).map D.int)
  | _, _ => False
section
variable {Γ : Gx} {T : Wo}
abbrev rLenP (K : PySem.W.Frag) : List V → Hp → VK → Prop := fun xs H Q => (∃ p ys, xs = [.ref p] ∧ (SqL K H p ys ∨ SqT K H p ys) ∧ Q (.int ys.length) H) ∨ (∃ z, xs = [.str z] ∧ z.length ≤ sizeLine ∧ Q (.int z.length) H)
theorem cr_lenP {X : Cx} {K : PySem.W.Frag} (h : X.K = K) : CallR X (.builtin "len") (rLenP K) := by subst h; exact cr_or call_len_seq call_len_str
theorem cs_len : CS Γ (rLenP Γ.K) gLen := ⟨fun {T xs as Q Q'} ok r h q => by
  unfold gLen at h
  split at h
  · obtain ⟨v, rfl, r'⟩ := r.one
    obtain ⟨p, vs, rfl, hp, rp⟩ := r'.lst ok
    refine .inl ⟨p, vs, rfl, .inl (SqL.of hp), ?_⟩
    rw [rp.len]; exact gr_sc ok q (.int _) h
  · obtain ⟨v, rfl, r'⟩ := r.one
    obtain ⟨p, vs, rfl, hp, rp⟩ := r'.tup ok
    refine .inl ⟨p, vs, rfl, .inr hp, ?_⟩
    rw [rp.len]; exact gr_sc ok q (.int _) h
  · obtain ⟨v, rfl, r'⟩ := r.one
    cases r'.str
    exact .inr ⟨_, rfl, h.1, gr_sc ok q (.int _) h.2⟩
  · exact h.elim⟩
abbrev rTupleP (K : PySem.W.Frag) : List V → Hp → VK → Prop := fun xs H Q => ∃ p ys, xs = [.ref p] ∧ ((SqL K H p ys ∧ ∀ l, H l = none → Q (.ref l) (upd H l (.tup ys))) ∨ (SqT K H p ys ∧ Q (.ref p) H))
theorem cs_tuple : CS Γ (rTupleP Γ.K) gTuple := ⟨fun {T xs as Q Q'} ok r h q => by
  unfold gTuple at h
  split at h
  · obtain ⟨v, rfl, r'⟩ := r.one
    obtain ⟨p, vs, rfl, hp, rp⟩ := r'.lst ok
    exact ⟨p, vs, rfl, .inl ⟨SqL.of hp, fun l n => gr_new ok q n (r_tup ok n rp) h⟩⟩
  · obtain ⟨v, rfl, r'⟩ := r.one
    obtain ⟨p, vs, rfl, hp, rp⟩ := r'.tup ok
    refine ⟨p, vs, rfl, .inr ⟨hp, ?_⟩⟩
    cases r' with
    | sh r => exact gr_sc ok q r h
  · exact h.elim⟩
abbrev rListP (K : PySem.W.Frag) : List V → Hp → VK → Prop := fun xs H Q => ∃ p ys, xs = [.ref p] ∧ (SqL K H p ys ∨ SqT K H p ys) ∧ ∀ l, H l = none → Q (.ref l) (upd H l (.lst ys))
theorem csf_list : CSF Γ (rListP Γ.K) fList := ⟨fun {T xs as Q Q'} ok r h q => by
  unfold fList at h
  split at h
  · obtain ⟨v, rfl, r'⟩ := r.one
    obtain ⟨p, vs, rfl, hp, rp⟩ := r'.lst ok
    exact ⟨p, vs, rfl, .inl (SqL.of hp), fun l n => q l _ _ n rp h⟩
  · obtain ⟨v, rfl, r'⟩ := r.one
    obtain ⟨p, vs, rfl, hp, rp⟩ := r'.tup ok
    exact ⟨p, vs, rfl, .inr hp, fun l n => q l _ _ n rp h⟩
  · exact h.elim⟩
abbrev rInt1 : List V → Hp → VK → Prop := fun xs H Q => (∃ i, xs = [.int i] ∧ Q (.int i) H) ∨ ∃ k, xs = [.bl k] ∧ Q (.int (if k then 1 else 0)) H
abbrev rBool1 : List V → Hp → VK → Prop := fun xs H Q => (∃ i, xs = [.int i] ∧ Q (.bl (i != 0)) H) ∨ ∃ k, xs = [.bl k] ∧ Q (.bl k) H
theorem cs_int : CS Γ rInt1 gInt := ⟨fun {T xs as Q Q'} ok r h q => by
  unfold gInt at h
  split at h
  · obtain ⟨v, rfl, r'⟩ := r.one
    cases r'.int
    exact .inl ⟨_, rfl, gr_sc ok q (.int _) h⟩
  · obtain ⟨v, rfl, r'⟩ := r.one
    cases r'.bl
    exact .inr ⟨_, rfl, gr_sc ok q (.int _) h⟩
  · exact h.elim⟩
theorem cs_bool : CS Γ rBool1 gBool := ⟨fun {T xs as Q Q'} ok r h q => by
  unfold gBool at h
  split at h
  · obtain ⟨v, rfl, r'⟩ := r.one
    cases r'.int
    exact .inl ⟨_, rfl, gr_sc ok q (.bl _) h⟩
  · obtain ⟨v, rfl, r'⟩ := r.one
    cases r'.bl
    exact .inr ⟨_, rfl, gr_sc ok q (.bl _) h⟩
  · exact h.elim⟩
theorem cs_abs : CS Γ (fun xs H Q => ∃ i, xs = [.int i] ∧ Q (.int (if i < 0 then -i else i)) H) gAbs := ⟨fun {T xs as Q Q'} ok r h q => by
  unfold gAbs at h
  split at h
  · obtain ⟨v, rfl, r'⟩ := r.one
    cases r'.int
    rename_i k i
    refine ⟨_, rfl, ?_⟩
    rw [show (if i < 0 then -i else i) = (i.natAbs : Int) by split <;> omega]
    exact gr_sc ok q (.int _) h
  · exact h.elim⟩
theorem cs_sum : CS Γ (rSum Γ.K) gSum := ⟨fun {T xs as Q Q'} ok r h q => by
  unfold gSum at h
  split at h
  · obtain ⟨v, rfl, r'⟩ := r.one
    obtain ⟨ns, e, h'⟩ := oK_of h
    replace h := h'
    clear h'
    cases intsO_eq e
    obtain ⟨p, vs, rfl, hp, rp⟩ := r'.lst ok
    cases rp.ints
    exact ⟨p, ns, rfl, SqL.of hp, gr_sc ok q (.int _) h⟩
  · exact h.elim⟩
theorem cs_all : CS Γ (rAll Γ.K) gAll := ⟨fun {T xs as Q Q'} ok r h q => by
  unfold gAll at h
  split at h
  · obtain ⟨v, rfl, r'⟩ := r.one
    obtain ⟨ns, e, h'⟩ := oK_of h
    replace h := h'
    clear h'
    cases blsO_eq e
    obtain ⟨p, vs, rfl, hp, rp⟩ := r'.lst ok
    cases rp.bls
    exact ⟨p, ns, rfl, SqL.of hp, gr_sc ok q (.bl _) h⟩
  · exact h.elim⟩
theorem cs_any : CS Γ (rAny Γ.K) gAny := ⟨fun {T xs as Q Q'} ok r h q => by
  unfold gAny at h
  split at h
  · obtain ⟨v, rfl, r'⟩ := r.one
    obtain ⟨ns, e, h'⟩ := oK_of h
    replace h := h'
    clear h'
    cases blsO_eq e
    obtain ⟨p, vs, rfl, hp, rp⟩ := r'.lst ok
    cases rp.bls
    exact ⟨p, ns, rfl, SqL.of hp, gr_sc ok q (.bl _) h⟩
  · exact h.elim⟩
abbrev rMaxP (K : PySem.W.Frag) : List V → Hp → VK → Prop := fun xs H Q => (∃ i j, xs = [.int i, .int j] ∧ Q (.int (if j > i then j else i)) H) ∨ (rMax3 xs H Q ∨ (rMax K xs H Q ∨ rMaxT K xs H Q))
abbrev rMinP (K : PySem.W.Frag) : List V → Hp → VK → Prop := fun xs H Q => (∃ i j, xs = [.int i, .int j] ∧ Q (.int (if j < i then j else i)) H) ∨ (rMin3 xs H Q ∨ (rMin K xs H Q ∨ rMinT K xs H Q))
theorem cr_maxP {X : Cx} {K : PySem.W.Frag} (h : X.K = K) (hc : X.calm = true) (hu : X.A.units + 65 < cLine) : CallR X (.builtin "max") (rMaxP K) := by subst h; exact cr_or (call_max2 hc) (cr_or (call_max3I hc) (cr_or (cr_max hc) (cr_maxT hc hu)))
theorem cr_minP {X : Cx} {K : PySem.W.Frag} (h : X.K = K) (hc : X.calm = true) (hu : X.A.units + 65 < cLine) : CallR X (.builtin "min") (rMinP K) := by subst h; exact cr_or (call_min2 hc) (cr_or (call_min3I hc) (cr_or (cr_min hc) (cr_minT hc hu)))
theorem cs_max : CS Γ (rMaxP Γ.K) gMax := ⟨fun {T xs as Q Q'} ok r h q => by
  unfold gMax at h
  split at h
  · rename_i k i j
    obtain ⟨v, u, rfl, r1, r2⟩ := r.two
    cases r1.int; cases r2.int
    refine .inl ⟨_, _, rfl, ?_⟩
    rw [show (if j > i then j else i) = max i j by split <;> omega]
    exact gr_sc ok q (.int _) h
  · rename_i k i j l
    obtain ⟨v, u, w, rfl, r1, r2, r3⟩ := r.three
    cases r1.int; cases r2.int; cases r3.int
    refine .inr (.inl ⟨_, _, _, rfl, ?_⟩)
    rw [show (if l > (if j > i then j else i) then l else (if j > i then j else i)) = max (max i j) l by split <;> split <;> omega]
    exact gr_sc ok q (.int _) h
  · obtain ⟨v, rfl, r'⟩ := r.one
    obtain ⟨ns, e, hn, h'⟩ := oK_of h
    replace h := h'
    clear h'
    cases intsO_eq e
    obtain ⟨p, vs, rfl, hp, rp⟩ := r'.lst ok
    cases rp.ints
    refine .inr (.inr (.inl ⟨p, ns, rfl, SqL.of hp, hn, fun m h1 h2 => ?_⟩))
    rw [maxI_is h1 h2]
    exact gr_sc ok q (.int _) h
  · obtain ⟨v, rfl, r'⟩ := r.one
    obtain ⟨ns, e, hn, h'⟩ := oK_of h
    replace h := h'
    clear h'
    cases intsO_eq e
    obtain ⟨p, vs, rfl, hp, rp⟩ := r'.tup ok
    cases rp.ints
    cases ns with
    | nil => simp at hn
    | cons n ns => exact .inr (.inr (.inr ⟨p, n, ns, rfl, hp, gr_sc ok q (.int _) h⟩))
  · exact h.elim⟩
theorem cs_min : CS Γ (rMinP Γ.K) gMin := ⟨fun {T xs as Q Q'} ok r h q => by
  unfold gMin at h
  split at h
  · rename_i k i j
    obtain ⟨v, u, rfl, r1, r2⟩ := r.two
    cases r1.int; cases r2.int
    refine .inl ⟨_, _, rfl, ?_⟩
    rw [show (if j < i then j else i) = min i j by split <;> omega]
    exact gr_sc ok q (.int _) h
  · rename_i k i j l
    obtain ⟨v, u, w, rfl, r1, r2, r3⟩ := r.three
    cases r1.int; cases r2.int; cases r3.int
    refine .inr (.inl ⟨_, _, _, rfl, ?_⟩)
    rw [show (if l < (if j < i then j else i) then l else (if j < i then j else i)) = min (min i j) l by split <;> split <;> omega]
    exact gr_sc ok q (.int _) h
  · obtain ⟨v, rfl, r'⟩ := r.one
    obtain ⟨ns, e, hn, h'⟩ := oK_of h
    replace h := h'
    clear h'
    cases intsO_eq e
    obtain ⟨p, vs, rfl, hp, rp⟩ := r'.lst ok
    cases rp.ints
    refine .inr (.inr (.inl ⟨p, ns, rfl, SqL.of hp, hn, fun m h1 h2 => ?_⟩))
    rw [minI_is h1 h2]
    exact gr_sc ok q (.int _) h
  · obtain ⟨v, rfl, r'⟩ := r.one
    obtain ⟨ns, e, hn, h'⟩ := oK_of h
    replace h := h'
    clear h'
    cases intsO_eq e
    obtain ⟨p, vs, rfl, hp, rp⟩ := r'.tup ok
    cases rp.ints
    cases ns with
    | nil => simp at hn
    | cons n ns => exact .inr (.inr (.inr ⟨p, n, ns, rfl, hp, gr_sc ok q (.int _) h⟩))
  · exact h.elim⟩
abbrev rSortedP2 (K : PySem.W.Frag) : List V → Hp → VK → Prop := fun xs H Q => rSortedI K xs H Q ∨ rSortedTI K xs H Q
theorem cr_sortedP2 {X : Cx} {K : PySem.W.Frag} (h : X.K = K) : CallR X (.builtin "sorted") (rSortedP2 K) := by subst h; exact cr_or cr_sortedI cr_sortedTI
theorem csf_sorted : CSF Γ (rSortedP2 Γ.K) fSorted := ⟨fun {T xs as Q Q'} ok r h q => by
  unfold fSorted at h
  split at h
  · obtain ⟨v, rfl, r'⟩ := r.one
    obtain ⟨ns, e, h'⟩ := oK_of h
    replace h := h'
    clear h'
    cases intsO_eq e
    obtain ⟨p, vs, rfl, hp, rp⟩ := r'.lst ok
    cases rp.ints
    refine .inl ⟨p, ns, rfl, SqL.of hp, fun ns' a h1 h2 n => ?_⟩
    rw [perm_sorted_eq (h1.trans (sortI_perm ns).symm) h2 (sortI_sorted ns)]
    exact q a _ _ n (ra_ints _) h
  · obtain ⟨v, rfl, r'⟩ := r.one
    obtain ⟨ns, e, h'⟩ := oK_of h
    replace h := h'
    clear h'
    cases intsO_eq e
    obtain ⟨p, vs, rfl, hp, rp⟩ := r'.tup ok
    cases rp.ints
    refine .inr ⟨p, ns, rfl, hp, fun ns' a h1 h2 n => ?_⟩
    rw [perm_sorted_eq (h1.trans (sortI_perm ns).symm) h2 (sortI_sorted ns)]
    exact q a _ _ n (ra_ints _) h
  · exact h.elim⟩
/-! ### * -/
abbrev rMulP (K : PySem.W.Frag) : R2 := fun x y H Q => rI CMulW (fun i j => .int (i * j)) x y H Q ∨ (rRep x y H Q ∨ rRepT K x y H Q)
theorem op_mulP {X : Cx} {K : PySem.W.Frag} (h : X.K = K) : OpR X (binaryOp .Mult) (rMulP K) := by subst h; exact opr_or op_mulW (opr_or op_rep op_repT)
def repD (l : List D) (k : Nat) : List D := (List.replicate k l).flatten
theorem RA.rep {H0 Hd : Hp} {vs : List V} {l : List D} (h : RA Γ H0 Hd vs l) : ∀ k, RA Γ H0 Hd (List.replicate k vs).flatten (List.replicate k l).flatten
  | 0 => .nil
  | k + 1 => by
    rw [List.replicate_succ, List.replicate_succ, List.flatten_cons, List.flatten_cons]
    exact h.app (RA.rep h k)
@[simp] def gMul : G2
  | .int i, .int j, k => CMulW i j ∧ k (.int (i * j))
  | .lst l, .int j, k => (-(2 ^ 63) ≤ j ∧ j < 2 ^ 63 ∧ l.length * j.toNat ≤ sizeLine) ∧ k (.lst (repD l j.toNat))
  | .tup l, .int j, k => (l ≠ [] ∧ 2 ≤ j ∧ j ≤ 1000 ∧ l.length ≤ 1000) ∧ k (.tup (repD l j.toNat))
  | _, _, _ => False
@[simp] def fRep : F2
  | .lst l, .int j, k => (-(2 ^ 63) ≤ j ∧ j < 2 ^ 63 ∧ l.length * j.toNat ≤ sizeLine) ∧ k (repD l j.toNat)
  | _, _, _ => False
theorem os_mul : OS Γ (rMulP Γ.K) gMul := ⟨fun {T x y a b Q Q'} ok rx ry h q => by
  cases a <;> cases b <;> first | exact h.elim | skip
  · cases rx.int; cases ry.int
    exact .inl ⟨_, _, rfl, rfl, h.1, gr_sc ok q (.int _) h.2⟩
  · obtain ⟨p, vs, rfl, hp, rp⟩ := rx.tup ok
    cases ry.int
    obtain ⟨⟨h1, h2, h3, h4⟩, h⟩ := h
    refine .inr (.inr ⟨p, _, vs, rfl, rfl, hp, fun z => h1 ?_, h2, h3, by rw [rp.len]; exact h4, fun a n => gr_new ok q n (r_tup ok n (rp.rep _)) h⟩)
    subst z; cases rp; rfl
  · obtain ⟨p, vs, rfl, hp, rp⟩ := rx.lst ok
    cases ry.int
    obtain ⟨⟨h1, h2, h3⟩, h⟩ := h
    exact .inr (.inl ⟨p, _, vs, rfl, rfl, hp, h1, h2, by rw [rp.len]; exact h3, fun a n => gr_new ok q n (r_lst ok n (rp.rep _)) h⟩)⟩
theorem osf_rep : OSF Γ rRep fRep := ⟨fun {T x y a b Q Q'} ok rx ry h q => by
  cases a <;> cases b <;> first | exact h.elim | skip
  obtain ⟨p, vs, rfl, hp, rp⟩ := rx.lst ok
  cases ry.int
  obtain ⟨⟨h1, h2, h3⟩, h⟩ := h
  exact ⟨p, _, vs, rfl, rfl, hp, h1, h2, by rw [rp.len]; exact h3, fun a n => q a _ _ n (rp.rep _) h⟩⟩
/-! ### isinstance -/
inductive Tn where
  | int | bool | str | tuple | list
def Tn.nm : Tn → String
  | .int => "int" | .bool => "bool" | .str => "str" | .tuple => "tuple" | .list => "list"
@[simp] def D.isTy : Tn → D → Bool
  | .bool, .bl _ => true
  | .int, .bl _ => true
  | .int, .int _ => true
  | .str, .str _ => true
  | .tuple, .tup _ => true
  | .list, .lst _ => true
  | _, _ => false
inductive TyN : D → String → Prop
  | non : TyN .non "NoneType"
  | bl (b) : TyN (.bl b) "bool"
  | int (b) : TyN (.int b) "int"
  | str (b) : TyN (.str b) "str"
  | tup (b) : TyN (.tup b) "tuple"
  | lst (b) : TyN (.lst b) "list"
theorem kt_NoneType_int : kitB "NoneType" "int" = some false := by decide +kernel
theorem kt_NoneType_bool : kitB "NoneType" "bool" = some false := by decide +kernel
theorem kt_NoneType_str : kitB "NoneType" "str" = some false := by decide +kernel
theorem kt_NoneType_tuple : kitB "NoneType" "tuple" = some false := by decide +kernel
theorem kt_NoneType_list : kitB "NoneType" "list" = some false := by decide +kernel
theorem kt_bool_int : kitB "bool" "int" = some true := by decide +kernel
theorem kt_bool_bool : kitB "bool" "bool" = some true := by decide +kernel
theorem kt_bool_str : kitB "bool" "str" = some false := by decide +kernel
theorem kt_bool_tuple : kitB "bool" "tuple" = some false := by decide +kernel
theorem kt_bool_list : kitB "bool" "list" = some false := by decide +kernel
theorem kt_int_int : kitB "int" "int" = some true := by decide +kernel
theorem kt_int_bool : kitB "int" "bool" = some false := by decide +kernel
theorem kt_int_str : kitB "int" "str" = some false := by decide +kernel
theorem kt_int_tuple : kitB "int" "tuple" = some false := by decide +kernel
theorem kt_int_list : kitB "int" "list" = some false := by decide +kernel
theorem kt_str_int : kitB "str" "int" = some false := by decide +kernel
theorem kt_str_bool : kitB "str" "bool" = some false := by decide +kernel
theorem kt_str_str : kitB "str" "str" = some true := by decide +kernel
theorem kt_str_tuple : kitB "str" "tuple" = some false := by decide +kernel
theorem kt_str_list : kitB "str" "list" = some false := by decide +kernel
theorem kt_tuple_int : kitB "tuple" "int" = some false := by decide +kernel
theorem kt_tuple_bool : kitB "tuple" "bool" = some false := by decide +kernel
theorem kt_tuple_str : kitB "tuple" "str" = some false := by decide +kernel
theorem kt_tuple_tuple : kitB "tuple" "tuple" = some true := by decide +kernel
theorem kt_tuple_list : kitB "tuple" "list" = some false := by decide +kernel
theorem kt_list_int : kitB "list" "int" = some false := by decide +kernel
theorem kt_list_bool : kitB "list" "bool" = some false := by decide +kernel
theorem kt_list_str : kitB "list" "str" = some false := by decide +kernel
theorem kt_list_tuple : kitB "list" "tuple" = some false := by decide +kernel
theorem kt_list_list : kitB "list" "list" = some true := by decide +kernel
theorem kit_tab {d : D} {S : String} {U : Tn} (h : TyN d S) : kitB S U.nm = some (d.isTy U) := by
  cases h with
  | non =>
    cases U with
    | int => exact kt_NoneType_int
    | bool => exact kt_NoneType_bool
    | str => exact kt_NoneType_str
    | tuple => exact kt_NoneType_tuple
    | list => exact kt_NoneType_list
  | bl b =>
    cases U with
    | int => exact kt_bool_int
    | bool => exact kt_bool_bool
    | str => exact kt_bool_str
    | tuple => exact kt_bool_tuple
    | list => exact kt_bool_list
  | int b =>
    cases U with
    | int => exact kt_int_int
    | bool => exact kt_int_bool
    | str => exact kt_int_str
    | tuple => exact kt_int_tuple
    | list => exact kt_int_list
  | str b =>
    cases U with
    | int => exact kt_str_int
    | bool => exact kt_str_bool
    | str => exact kt_str_str
    | tuple => exact kt_str_tuple
    | list => exact kt_str_list
  | tup b =>
    cases U with
    | int => exact kt_tuple_int
    | bool => exact kt_tuple_bool
    | str => exact kt_tuple_str
    | tuple => exact kt_tuple_tuple
    | list => exact kt_tuple_list
  | lst b =>
    cases U with
    | int => exact kt_list_int
    | bool => exact kt_list_bool
    | str => exact kt_list_str
    | tuple => exact kt_list_tuple
    | list => exact kt_list_list
@[simp] def D.tyN : D → Bool
  | .obj _ _ => false
  | .hnd => false
  | .scr _ => false
  | .dct _ => false
  | .set _ => false
  | _ => true
theorem ro_ty {v : V} {d : D} (ok : T.Ok) (r : RO Γ T v d) (h : d.tyN = true) : ∃ S, TyN d S ∧ TyX Γ.K T.H v (.type S) := by
  cases d <;> first | cases h | skip
  · cases r.non; exact ⟨_, .non, .base .non⟩
  · cases r.bl; exact ⟨_, .bl _, .base (.bl _)⟩
  · cases r.int; exact ⟨_, .int _, .base (.int _)⟩
  · cases r.str; exact ⟨_, .str _, .base (.str _)⟩
  · obtain ⟨p, vs, rfl, hp, _⟩ := r.tup ok; exact ⟨_, .tup _, ty_tup hp⟩
  · obtain ⟨p, vs, rfl, hp, _⟩ := r.lst ok; exact ⟨_, .lst _, ty_lst (SqL.of hp)⟩
/-- isinstance(x, T), T a built-in class that is written -/
@[simp] def wIsi (U : Tn) (w : WO) : WE := fun ρ Q => w ρ fun a ρ1 => rs1 ρ1 a fun d => d.tyN = true ∧ Q (.bl (d.isTy U)) ρ1
end
section
variable {Γ : Gx} {X : Cx} {e : Expr} {te : TE} {we : WO} {x : Str} {p pos : Pos} {e2 : Expr} {U : Tn}
theorem ve_isi (hK : X.K = Γ.K) (h : VO Γ X e te we) (h2 : PE X e2 (tC (.ty U.nm))) (hg : Gl X "isinstance") (hm : X.mg "isinstance" = none)
    (he : starEach (e :: [e2]) X.env = (false, eval e X.env) :: starEach [e2] X.env := by rfl) (he2 : starEach [e2] X.env = (false, eval e2 X.env) :: starEach [] X.env := by rfl) (hpl : (backTo pos (starEach [e2] X.env)).any (·.1) = false := by rfl) :
    VE Γ X (.Call (.Name "isinstance" p) [e, e2] [] pos) (tCB (RIs Γ.K) (tCons te (tCons (tC (.ty U.nm)) tNil))) (wIsi U we) :=
  ⟨pe_callB (kcall_isiS hK) hg hm (by decide +kernel) (pa_cons h.pe (pa_cons h2 pa_nil he2) he) (by decide) (by decide) he hpl, ⟨fun {T σ ρ Q Q'} S hw q => h.se.h S hw fun v T1 a ρ1 S1 e1 r1 q1 => by
    obtain ⟨d, r, ht, q1⟩ := S1.rs1 r1 q1
    obtain ⟨N, h1, h2⟩ := ro_ty S1.ok r ht
    exact isi_of h2 (kit_tab h1) (q (.bl _) T1 _ ρ1 S1 e1 (.bl _) q1)⟩⟩
end
end Vl

namespace Vl
open PySem PySem.Spec PyProof.Rows L2 Hl

section
variable {Γ : Gx} {X : Cx} {T : Wo} {σ : L2.St} {ρ : Vn}
variable {e o : Expr} {es : List Expr} {te : TE} {we : WE} {wo : WO} {pos cpos apos : Pos} {i : Nat}
/-! ### methods of one's own list -/
theorem ve_app (hK : X.K = Γ.K) (ho : PE X o (tVar i)) (h : VE Γ X e te we)
    (hbase : attributeBase o "append" X.env (eval o X.env) = eval o X.env := by rfl)
    (hfew : ((backTo cpos (starEach (e :: []) X.env)).all (fun x => !x.1) && (backToKw cpos (keywordEach [] X.env)).all (fun x => x.1.isSome)
      && decide ((e :: ([] : List Expr)).length + ([] : List Keyword).length + (if ([] : List Keyword).isEmpty then 0 else 1) < 30)) = true := by rfl)
    (hline : (apos.endLine == cpos.line) = true := by rfl) (hs : starEach (e :: []) X.env = (false, eval e X.env) :: starEach [] X.env := by rfl) (hplain : (backTo cpos (starEach [] X.env)).any (·.1) = false := by rfl) :
    VE Γ X (.Call (.Attribute o "append" apos) [e] [] cpos) (tBM Γ.K "list" rAppend (tVar i) (tCons te tNil)) (wApp i we) :=
  ⟨by rw [← hK]; exact pe_bm PySem.F.plainAttrs_list PySem.F.slot_list_append PySem.F.type_list_append mt_append ho (pa_cons h.pe pa_nil hs) hbase hfew hline hs hplain, se_app h.se⟩
theorem ve_ext (hK : X.K = Γ.K) (ho : PE X o (tVar i)) (h : VO Γ X e te wo)
    (hbase : attributeBase o "extend" X.env (eval o X.env) = eval o X.env := by rfl)
    (hfew : ((backTo cpos (starEach (e :: []) X.env)).all (fun x => !x.1) && (backToKw cpos (keywordEach [] X.env)).all (fun x => x.1.isSome)
      && decide ((e :: ([] : List Expr)).length + ([] : List Keyword).length + (if ([] : List Keyword).isEmpty then 0 else 1) < 30)) = true := by rfl)
    (hline : (apos.endLine == cpos.line) = true := by rfl) (hs : starEach (e :: []) X.env = (false, eval e X.env) :: starEach [] X.env := by rfl) (hplain : (backTo cpos (starEach [] X.env)).any (·.1) = false := by rfl) :
    VE Γ X (.Call (.Attribute o "extend" apos) [e] [] cpos) (tBM Γ.K "list" rExtend (tVar i) (tCons te tNil)) (wExt i wo) :=
  ⟨by rw [← hK]; exact pe_bm PySem.F.plainAttrs_list PySem.F.slot_list_extend PySem.F.type_list_extend mt_extend ho (pa_cons h.pe pa_nil hs) hbase hfew hline hs hplain, se_ext h.se⟩
theorem ve_popAt (hK : X.K = Γ.K) (ho : PE X o (tVar i)) (h : VE Γ X e te we)
    (hbase : attributeBase o "pop" X.env (eval o X.env) = eval o X.env := by rfl)
    (hfew : ((backTo cpos (starEach (e :: []) X.env)).all (fun x => !x.1) && (backToKw cpos (keywordEach [] X.env)).all (fun x => x.1.isSome)
      && decide ((e :: ([] : List Expr)).length + ([] : List Keyword).length + (if ([] : List Keyword).isEmpty then 0 else 1) < 30)) = true := by rfl)
    (hline : (apos.endLine == cpos.line) = true := by rfl) (hs : starEach (e :: []) X.env = (false, eval e X.env) :: starEach [] X.env := by rfl) (hplain : (backTo cpos (starEach [] X.env)).any (·.1) = false := by rfl) :
    VE Γ X (.Call (.Attribute o "pop" apos) [e] [] cpos) (tBM Γ.K "list" rPopAt (tVar i) (tCons te tNil)) (wPopAt i we) :=
  ⟨by rw [← hK]; exact pe_bm PySem.F.plainAttrs_list PySem.F.slot_list_pop PySem.F.type_list_pop mt_popAt ho (pa_cons h.pe pa_nil hs) hbase hfew hline hs hplain, se_popAt h.se⟩
theorem ve_pop (hK : X.K = Γ.K) (ho : PE X o (tVar i))
    (hbase : attributeBase o "pop" X.env (eval o X.env) = eval o X.env := by rfl) (hline : (apos.endLine == cpos.line) = true := by rfl) :
    VE Γ X (.Call (.Attribute o "pop" apos) [] [] cpos) (tBM0 Γ.K "list" rPop (tVar i)) (wPop i) :=
  ⟨by rw [← hK]; exact pe_bm0 PySem.F.plainAttrs_list PySem.F.slot_list_pop PySem.F.type_list_pop mt_pop ho hbase hline, se_pop⟩
/-- found[i] = e -/
@[simp] def wSetIx (i : Nat) (w : WE) (wi : WE) : WS := fun D ρ => w ρ fun d ρ1 => cOwn (ρ1.getD i .no) fun _ => wi ρ1 fun j ρ2 => match j with
  | .int j => cOwn (ρ2.getD i .no) fun l => oK (ixN l.length j) fun k => D.nx (ρ2.set i (.own (l.set k d)))
  | _ => False
theorem ss_setIx {ti : TE} {wi : WE} (h : SE Γ te we) (hi : SE Γ ti wi) : SS Γ (tAsg te (gSub (tVar i) ti rSetL)) (wSetIx i we wi) := ⟨fun {T σ ρ D D'} S hw a b c d => h.h S hw fun v T1 x ρ1 S1 e1 r1 q1 => by
  obtain ⟨p, vs, l, hi', hs, hp, r, nF, n0, nd, q1⟩ := S1.ownAt q1
  refine ⟨_, hs, hi.h S1 q1 fun u T2 j ρ2 S2 e2 r2 q2 => ?_⟩
  cases j <;> first | exact q2.elim | skip
  cases r2
  obtain ⟨p', vs', l', hi', hs', hp, r, nF, n0, nd, hw⟩ := S2.ownAt q2
  rw [hs] at hs'; cases hs'
  obtain ⟨k, hk, hw⟩ := oK_of hw
  obtain ⟨S3, e3⟩ := S2.putL (l' := l'.set k x) hi' hs nF n0 nd (r.set k (R.ext e2 r1))
  exact ⟨_, _, _, k, rfl, rfl, hp, by rw [r.len]; exact hk, a _ σ _ S3 ((e1.trans e2).trans e3) hw⟩⟩
theorem vs_setIx {ei : Expr} {ti : TE} {wi : WE} {spos : Pos} (ho : PE X o (tVar i)) (h : VE Γ X e te we) (hi : VE Γ X ei ti wi)
    (hs : swapsWithSole [.Subscript o ei pos] e spos.line X.env = pure false := by rfl) (hw : swappedStores [.Subscript o ei pos] e X.env = pure none := by rfl)
    (h1 : (assignEach [.Subscript o ei pos] X.env).map (·.2) = [assign (.Subscript o ei pos) X.env] := by rfl)
    (ha : ∀ v, assign (.Subscript o ei pos) X.env v = (do
      let ov ← holding [v] (eval o X.env)
      let iv ← holding [v, ov] (eval ei X.env)
      standAt pos
      holding [v, ov, iv] (setItem ov iv v)
      release [v, ov, iv] []) := by intro _; rfl) : VS Γ X (.Assign [.Subscript o ei pos] e spos) (tAsg te (gSub (tVar i) ti rSetL)) (wSetIx i we wi) :=
  ⟨ps_asg h.pe (pg_sub ho hi.pe set_list ha) hs hw h1, ss_setIx h.se hi.se⟩
/-! ### slices -/
abbrev WP := Vn → (Option Int → Vn → Prop) → Prop
structure SP' (Γ : Gx) (t : TO) (w : WP) : Prop where
  h : ∀ {T : Wo} {σ : L2.St} {ρ : Vn} {Q : Option Int → Vn → Prop} {Q' : Option Int → Hp → Prop}, Sv Γ T σ ρ → w ρ Q → (∀ v T' ρ', Sv Γ T' σ ρ' → Ext Γ T T' → Q v ρ' → Q' v T'.H) → t σ T.H Q'
structure VP (Γ : Gx) (X : Cx) (e : Option Expr) (t : TO) (w : WP) : Prop where
  pe : PO X e t
  se : SP' Γ t w
@[simp] def wPN : WP := fun ρ Q => Q none ρ
@[simp] def wPS (w : WE) : WP := fun ρ Q => w ρ fun d ρ1 => match d with
  | .int i => Q (some i) ρ1
  | _ => False
theorem vp_none : VP Γ X none tNoPart wPN := ⟨po_none, ⟨fun {T σ ρ Q Q'} S hw q => q none T ρ S .refl hw⟩⟩
theorem vp_some (h : VE Γ X e te we) : VP Γ X (some e) (tPart te) (wPS we) := ⟨po_some h.pe, ⟨fun {T σ ρ Q Q'} S hw q => h.se.h S hw fun v T1 d ρ1 S1 e1 r1 q1 => by
  cases d <;> first | exact q1.elim | skip
  cases r1
  exact ⟨_, rfl, q _ T1 ρ1 S1 e1 q1⟩⟩⟩
def cutD (l : List D) (lo hi : Option Int) : List D := (l.drop (HT.sIx l.length 0 lo)).take (HT.sIx l.length l.length hi - HT.sIx l.length 0 lo)
theorem RA.cut {H0 Hd : Hp} {vs : List V} {l : List D} (h : RA Γ H0 Hd vs l) (lo hi : Option Int) : RA Γ H0 Hd (cutV vs lo hi) (cutD l lo hi) := by
  unfold cutV cutD
  rw [h.len]
  exact (h.drop _).take _
abbrev rSlP (K : PySem.W.Frag) : V → Option Int → Option Int → Hp → VK → Prop := fun x lo hi H Q => rSlL K x lo hi H Q ∨ (fun x lo hi H Q => rSlA K x lo hi H Q ∨ rSlS x lo hi H Q) x lo hi H Q
theorem sl_P {K : PySem.W.Frag} (h : X.K = K) : SlR X (rSlP K) := by subst h; exact SlR.or sl_list (SlR.or sl_tupA sl_str)
@[simp] def wSl3 (w : WO) (wl wh : WP) : WE := fun ρ Q => w ρ fun a ρ1 => wl ρ1 fun lo ρ2 => wh ρ2 fun hi ρ3 => rs1 ρ3 a fun d => match d with
  | .lst l => Q (.lst (cutD l lo hi)) ρ3
  | .tup l => Q (.tup (cutD l lo hi)) ρ3
  | .str z => z.length ≤ sizeLine ∧ Q (.str (cutS z lo hi)) ρ3
  | _ => False
@[simp] def wSlF (w : WO) (wl wh : WP) : WF := fun ρ Q => w ρ fun a ρ1 => wl ρ1 fun lo ρ2 => wh ρ2 fun hi ρ3 => rs1 ρ3 a fun d => match d with
  | .lst l => Q (cutD l lo hi) ρ3
  | _ => False
theorem se_sl {tl th : TO} {wl wh : WP} (h : SO Γ te wo) (hl : SP' Γ tl wl) (hh : SP' Γ th wh) : SE Γ (tSl (rSlP Γ.K) te tl th) (wSl3 wo wl wh) := ⟨fun {T σ ρ Q Q'} S hw q =>
  h.h S hw fun v T1 a ρ1 S1 e1 r1 q1 => hl.h S1 q1 fun lo T2 ρ2 S2 e2 q2 => hh.h S2 q2 fun hi T3 ρ3 S3 e3 q3 => by
    obtain ⟨d, r, q3⟩ := S3.rs1 ((r1.ext e2).ext e3) q3
    have E := (e1.trans e2).trans e3
    cases d <;> first | exact q3.elim | skip
    · cases r.str
      exact .inr (.inr ⟨_, rfl, q3.1, q _ T3 _ ρ3 S3 E (.str _) q3.2⟩)
    · obtain ⟨p, vs, rfl, hp, rp⟩ := r.tup S3.ok
      refine .inr (.inl ⟨p, vs, rfl, hp, fun hz => ?_, fun _ a n => ?_⟩)
      · cases r with
        | sh r =>
          rename_i l
          have z : cutD l lo hi = l := by
            unfold cutD
            rw [← rp.len, hz.1, hz.2, List.drop_zero, Nat.sub_zero, rp.len, List.take_length]
          have q4 : Q (.tup (cutD l lo hi)) ρ3 := q3
          rw [z] at q4
          exact q _ T3 _ ρ3 S3 E r q4
      · have g := Gr.new (o := .tup (cutV vs lo hi)) S3.ok n
        exact q _ _ _ ρ3 (S3.grow g) (E.trans g.ext) (r_tup S3.ok n (rp.cut lo hi)) q3
    · obtain ⟨p, vs, rfl, hp, rp⟩ := r.lst S3.ok
      refine .inl ⟨p, vs, rfl, SqL.of hp, fun a n => ?_⟩
      have g := Gr.new (o := .lst (cutV vs lo hi)) S3.ok n
      exact q _ _ _ ρ3 (S3.grow g) (E.trans g.ext) (r_lst S3.ok n (rp.cut lo hi)) q3⟩
theorem sf_sl {tl th : TO} {wl wh : WP} (h : SO Γ te wo) (hl : SP' Γ tl wl) (hh : SP' Γ th wh) : SF Γ (tSl (rSlP Γ.K) te tl th) (wSlF wo wl wh) := ⟨fun {T σ ρ Q Q'} S hw q =>
  h.h S hw fun v T1 a ρ1 S1 e1 r1 q1 => hl.h S1 q1 fun lo T2 ρ2 S2 e2 q2 => hh.h S2 q2 fun hi T3 ρ3 S3 e3 q3 => by
    obtain ⟨d, r, q3⟩ := S3.rs1 ((r1.ext e2).ext e3) q3
    cases d <;> first | exact q3.elim | skip
    obtain ⟨p, vs, rfl, hp, rp⟩ := r.lst S3.ok
    exact .inl ⟨p, vs, rfl, SqL.of hp, fun a n => sf_new S3 ((e1.trans e2).trans e3) q n (rp.cut lo hi) q3⟩⟩
variable {lo hi : Option Expr} {tl th : TO} {wl wh : WP} {p2 : Pos}
theorem ve_sl (hK : X.K = Γ.K) (h : VO Γ X e te wo) (hl : VP Γ X lo tl wl) (hh : VP Γ X hi th wh) : VE Γ X (.Subscript e (.Slice lo hi none p2) pos) (tSl (rSlP Γ.K) te tl th) (wSl3 wo wl wh) := ⟨pe_slice (sl_P hK) h.pe hl.pe hh.pe, se_sl h.se hl.se hh.se⟩
theorem vf_sl (hK : X.K = Γ.K) (h : VO Γ X e te wo) (hl : VP Γ X lo tl wl) (hh : VP Γ X hi th wh) : VF Γ X (.Subscript e (.Slice lo hi none p2) pos) (tSl (rSlP Γ.K) te tl th) (wSlF wo wl wh) := ⟨pe_slice (sl_P hK) h.pe hl.pe hh.pe, sf_sl h.se hl.se hh.se⟩
/-- xs[::-1] of a list -/
@[simp] def wRevF (w : WO) : WF := fun ρ Q => w ρ fun a ρ1 => rs1 ρ1 a fun d => match d with
  | .lst l => Q l.reverse ρ1
  | _ => False
theorem vf_rev {k : Nat} {p1 p2 p3 : Pos} (hK : X.K = Γ.K) (h : VO Γ X e te wo) : VF Γ X (.Subscript e (.Slice none none (some (.UnaryOp .USub (.Constant (.int 1) k p1) p2)) p3) pos) (tRevL Γ.K te) (wRevF wo) := ⟨by rw [← hK]; exact pe_revL h.pe, ⟨fun {T σ ρ Q Q'} S hw q => h.se.h S hw fun v T1 a ρ1 S1 e1 r1 q1 => by
  obtain ⟨d, r, q1⟩ := S1.rs1 r1 q1
  cases d <;> first | exact q1.elim | skip
  obtain ⟨p, vs, rfl, hp, rp⟩ := r.lst S1.ok
  exact ⟨p, vs, rfl, SqL.of hp, fun a n => sf_new S1 e1 q n rp.reverse q1⟩⟩⟩
/-! ### enumerate, zip -/
def prI (i : Nat) (d : D) : D := .tup [.int (i : Nat), d]
def enD (l : List D) : List D := l.mapIdx prI
def iEnumP (K : PySem.W.Frag) (ta : TA) : TI := fun σ H R => ta σ H fun vs H1 => (∃ a xs, vs = [.ref a] ∧ SqL K H1 a xs ∧ R (Ite K a) H1) ∨ (∃ a xs, vs = [.ref a] ∧ SqT K H1 a xs ∧ R (IteT K a) H1)
theorem pi_enumP {ta : TA} {p tpos : Pos} {elts : List Expr} {kk : Nat} (hg : Gl X "enumerate") (hm : X.mg "enumerate" = none) (ha : PA X [e] ta) (hs : starEach [e] X.env = [(false, eval e X.env)] := by rfl) :
    PI X (.Tuple elts kk tpos) (.Call (.Name "enumerate" p) [e] [] pos) (iEnumP X.K ta) := by
  refine ⟨fun pins s σ H R I h => ?_⟩
  refine Call_ (ld_blt I hg hm boot_enumerate (PyProof.Rows.callWith_type1 (thn (ha.run pos pins s σ H _ I h) fun us s1 ⟨vs, H1, I1, r1, q1⟩ => ?_) hs rfl))
  rcases q1 with ⟨a, xs, ex, hq, q⟩ | ⟨a, xs, ex, hq, q⟩
  · subst ex
    cases r1 with
    | cons r rr =>
      cases rr
      cases r
      obtain ⟨its, rv, p', hz⟩ := I1.list hq
      refine call_enumerate_list p'.isList fun h' he hit hsz hk => wpAny_pyIter_enum he ?_
      have I2 : Inv X pins σ H1 { s1 with heap := h' } := I1.kept (t' := s1.toks) hk
      refine ⟨s1.heap.objs.size + 1, [s1.heap.objs.size + 1, s1.heap.objs.size], _, _, H1, rfl, I2, turn_enum a (s1.heap.objs.size + 1) s1.heap.objs.size, ⟨⟨.none, he⟩, hit, Nat.succ_ne_self _⟩, fun b hb => ?_, q⟩
      have e' : b = s1.heap.objs.size + 1 ∨ b = s1.heap.objs.size := by simpa using hb
      have hle : s1.heap.objs.size ≤ b := by
        rcases e' with z | z
        · rw [z]; exact Nat.le_add_right _ _
        · rw [z]; exact Nat.le_refl _
      exact I1.fpOk hle (I1.hok.fresh hle)
  · subst ex
    cases r1 with
    | cons r rr =>
      cases rr
      cases r
      obtain ⟨its, rv, p', hz⟩ := I1.tuple hq
      have hal : a < s1.heap.objs.size := p'.lt
      refine call_enumerate_tuple (items := its.toArray) p' fun h' he hit hsz hk => wpAny_pyIter_enum he ?_
      have I2 : Inv X pins σ H1 { s1 with heap := h' } := I1.kept (t' := s1.toks) hk
      refine ⟨s1.heap.objs.size + 1, [s1.heap.objs.size + 1, s1.heap.objs.size], _, _, H1, rfl, I2, turn_enumT a (s1.heap.objs.size + 1) s1.heap.objs.size (Nat.ne_of_lt hal) (Ne.symm (Nat.ne_of_lt (Nat.lt_succ_of_lt hal))), ⟨⟨.none, he⟩, hit, Nat.succ_ne_self _⟩, fun b hb => ?_, q⟩
      have e' : b = s1.heap.objs.size + 1 ∨ b = s1.heap.objs.size := by simpa using hb
      have hle : s1.heap.objs.size ≤ b := by
        rcases e' with z | z
        · rw [z]; exact Nat.le_add_right _ _
        · rw [z]; exact Nat.le_refl _
      exact I1.fpOk hle (I1.hok.fresh hle)
theorem its_enum {p : Addr} {vs : List V} {ds : List D} {J : It} (r : RA Γ T.H0 T.Hd vs ds) (hg : ∀ T', Lat Γ T T' → ∀ i x, vs[i]? = some x → J.go i T'.H) (hst : ∀ T', Lat Γ T T' → J.stop vs.length T'.H)
    (hy : ∀ T', Lat Γ T T' → ∀ i x H', J.yld i T'.H x H' → ∃ t y, x = .ref t ∧ T'.H t = none ∧ H' = upd T'.H t (.tup [.int (i : Nat), y]) ∧ vs[i]? = some y) : Its Γ T J (enD ds) := by
  have el : (enD ds).length = ds.length := by simp [enD]
  refine ⟨fun T' l i hi => ?_, fun T' l => by rw [el, ← r.len]; exact hst T' l, fun T' l i d x H' hd hyl => ?_⟩
  · rw [el] at hi
    obtain ⟨x, hx⟩ := lt_at r hi
    exact hg T' l i x hx
  · obtain ⟨t, y, rfl, n, rfl, hx⟩ := hy T' l i x H' hyl
    obtain ⟨d', hd', ry⟩ := (l.ext r).get' hx
    have z : d = prI i d' := by
      unfold enD at hd
      rw [List.getElem?_mapIdx, hd'] at hd
      cases hd; rfl
    subst z
    refine ⟨_, Gr.new (o := .tup [.int (i : Nat), y]) l.ok n, rfl, ?_⟩
    exact r_tup l.ok n (.cons (.int _) (.cons ry .nil))
@[simp] def wEnum (w : WA) : WI := fun ρ Q => w ρ fun as ρ1 => match as with
  | [a] => rsW ρ1 a fun d => itD d fun l => Q (enD l) ρ1
  | _ => False
theorem si_enum {t : TA} {w : WA} (h : SA Γ t w) : SI Γ (iEnumP Γ.K t) (wEnum w) := ⟨fun {T σ ρ Q Q'} S hw q => h.h S hw fun vs T1 as ρ1 S1 e1 r1 q1 => by
  match as, r1, q1 with
  | [a], .cons ra .nil, q1 =>
    obtain ⟨d, rd, q1⟩ := S1.rsW ra q1
    cases d <;> first | exact q1.elim | skip
    · cases rd with
      | sh r =>
        cases r with
        | tup hp ra =>
          refine .inr ⟨_, _, rfl, seqT S1.ok.s0 hp, q _ T1 _ ρ1 S1 e1 (its_enum ra (p := 0) ?_ ?_ ?_) q1⟩
          · exact fun T' l i x hx => ⟨_, x, seqT l.ok.s0 (seqT l.s0 hp), hx⟩
          · exact fun T' l => ⟨_, seqT l.ok.s0 (seqT l.s0 hp), rfl⟩
          · rintro T' l i x H' ⟨t, y, rfl, n, rfl, hh⟩
            exact ⟨t, y, rfl, n, rfl, hh _ (seqT l.ok.s0 (seqT l.s0 hp))⟩
    · have fin : ∀ {p vs l}, (∀ T', Lat Γ T1 T' → SqL Γ.K T'.H p vs) → RA Γ T1.H0 T1.Hd vs l → Q (enD l) ρ1 → iEnumP Γ.K (fun σ H k => k [.ref p] H) σ T1.H Q' := fun {p vs l} hs ra q1 => by
        refine .inl ⟨p, vs, rfl, hs T1 ⟨S1.ok, Same.refl _, Same.refl _, fun _ h => h⟩, q _ T1 _ ρ1 S1 e1 (its_enum ra (p := 0) ?_ ?_ ?_) q1⟩
        · exact fun T' l i x hx => ⟨_, x, hs T' l, hx⟩
        · exact fun T' l => ⟨_, hs T' l, Nat.le_refl _⟩
        · rintro T' l i x H' ⟨t, y, rfl, n, rfl, hh⟩
          exact ⟨t, y, rfl, n, rfl, hh _ (hs T' l)⟩
      cases rd with
      | sh r =>
        cases r with
        | lst hp ra => exact fin (fun T' l => SqL.of (l.ok.s0 _ _ (l.s0 _ _ hp))) ra q1
      | pi hp ra => exact fin (fun T' l => SqL.of (l.ok.sF _ _ (l.f _ _ hp))) ra q1⟩
theorem vi_enum {ta : TA} {wa : WA} {p tpos : Pos} {elts : List Expr} {kk : Nat} (hK : X.K = Γ.K) (hg : Gl X "enumerate") (hm : X.mg "enumerate" = none) (ha : VA Γ X [e] ta wa) (hs : starEach [e] X.env = [(false, eval e X.env)] := by rfl) :
    VI Γ X (.Tuple elts kk tpos) (.Call (.Name "enumerate" p) [e] [] pos) (iEnumP Γ.K ta) (wEnum wa) := ⟨by rw [← hK]; exact pi_enumP hg hm ha.pe hs, si_enum ha.se⟩
end
end Vl

namespace Vl
open PySem PySem.Spec PyProof.Rows L2 Hl

section
variable {Γ : Gx} {X : Cx} {T : Wo} {σ : L2.St} {ρ : Vn}
/-! ### dicts with int and text keys -/
@[simp] def D.keyO : D → Option Key
  | .int i => some (.inl i)
  | .str z => some (.inr z)
  | _ => none
theorem RO.key {v : V} {d : D} {k : Key} (h : RO Γ T v d) (e : d.keyO = some k) : v = kV k := by
  cases d <;> first | cases e | skip
  · cases h.int; rfl
  · cases h.str; rfl
def valD (kvs : List (Key × D)) (k : Key) : Option D := (kvs.find? fun kv => decide (kv.1 = k)).map (·.2)
def putKD (kvs : List (Key × D)) (k : Key) (v : D) : List (Key × D) :=
  if (kvs.any fun kv => decide (kv.1 = k)) = true then kvs.map (fun kv => if kv.1 = k then (kv.1, v) else kv) else kvs ++ [(k, v)]
theorem RK.len {H0 Hd : Hp} : ∀ {vs : List (Key × V)} {l : List (Key × D)}, RK Γ H0 Hd vs l → vs.length = l.length
  | _, _, .nil => rfl
  | _, _, .cons _ t => by rw [List.length_cons, List.length_cons, t.len]
theorem RK.val {H0 Hd : Hp} (k : Key) : ∀ {vs : List (Key × V)} {l : List (Key × D)}, RK Γ H0 Hd vs l → (valV vs k).isSome = (valD l k).isSome ∧ ∀ d, valD l k = some d → ∃ v, valV vs k = some v ∧ R Γ H0 Hd v d
  | _, _, .nil => ⟨rfl, fun _ h => nomatch h⟩
  | _, _, .cons (k := k') (v := v) (d := d) (vs := vs) (l := l) h t => by
    obtain ⟨h1, h2⟩ := t.val k
    by_cases e : k' = k
    · have e1 : valV ((k', v) :: vs) k = some v := valV_pos e
      have e2 : valD ((k', d) :: l) k = some d := by simp [valD, List.find?_cons, e]
      rw [e1, e2]
      exact ⟨rfl, fun d' hd => by cases hd; exact ⟨v, rfl, h⟩⟩
    · have e1 : valV ((k', v) :: vs) k = valV vs k := valV_neg e
      have e2 : valD ((k', d) :: l) k = valD l k := by simp [valD, List.find?_cons, e]
      rw [e1, e2]
      exact ⟨h1, h2⟩
theorem RK.any {H0 Hd : Hp} (k : Key) : ∀ {vs : List (Key × V)} {l : List (Key × D)}, RK Γ H0 Hd vs l → (vs.any fun kv => decide (kv.1 = k)) = (l.any fun kv => decide (kv.1 = k))
  | _, _, .nil => rfl
  | _, _, .cons h t => by rw [List.any_cons, List.any_cons, t.any k]
theorem RK.app {H0 Hd : Hp} : ∀ {vs ws : List (Key × V)} {l m : List (Key × D)}, RK Γ H0 Hd vs l → RK Γ H0 Hd ws m → RK Γ H0 Hd (vs ++ ws) (l ++ m)
  | _, _, _, _, .nil, h => h
  | _, _, _, _, .cons h t, u => .cons h (t.app u)
theorem RK.upd {H0 Hd : Hp} {v : V} {d : D} (k : Key) (hv : R Γ H0 Hd v d) : ∀ {vs : List (Key × V)} {l : List (Key × D)}, RK Γ H0 Hd vs l → RK Γ H0 Hd (vs.map fun kv => if kv.1 = k then (kv.1, v) else kv) (l.map fun kv => if kv.1 = k then (kv.1, d) else kv)
  | _, _, .nil => .nil
  | _, _, .cons (k := k') h t => by
    rw [List.map_cons, List.map_cons]
    by_cases e : k' = k
    · simp only [e, if_true]; exact .cons hv (t.upd k hv)
    · simp only [e, if_false]; exact .cons h (t.upd k hv)
theorem RK.put {H0 Hd : Hp} {v : V} {d : D} (k : Key) (hv : R Γ H0 Hd v d) {vs : List (Key × V)} {l : List (Key × D)} (h : RK Γ H0 Hd vs l) : RK Γ H0 Hd (putK vs k v) (putKD l k d) := by
  unfold putK putKD
  rw [h.any k]
  split
  · exact h.upd k hv
  · exact h.app (.cons hv .nil)
variable {e o : Expr} {es : List Expr} {te ti : TE} {we wi : WE} {wo : WO} {pos cpos apos : Pos} {i : Nat}
theorem Sv.dicAt {k : List (Key × D) → Prop} (S : Sv Γ T σ ρ) (h : cDic (ρ.getD i .no) k) : ∃ p vs l, ρ[i]? = some (.dic l) ∧ σ[i]? = some (some (.ref p)) ∧ T.H p = some (.dK vs) ∧ RK Γ T.H0 T.Hd vs l ∧ T.F p = none ∧ T.H0 p = none ∧ T.Hd p = none ∧ k l := by
  obtain ⟨l, e, h⟩ := cDic_of h
  have e' := getD_of e (by simp)
  obtain ⟨s, e1, p, vs, e2, hp, r, n1, n2, n3⟩ := S.cell i _ e'
  exact ⟨p, vs, l, e', by rw [e1, e2], hp, r, n1, n2, n3, h⟩
theorem Sv.putDK {p : Addr} {vs : List (Key × V)} {l l' : List (Key × D)} (S : Sv Γ T σ ρ) (hi : ρ[i]? = some (.dic l)) (hs : σ[i]? = some (some (.ref p))) (nF : T.F p = none) (n0 : T.H0 p = none) (nd : T.Hd p = none) (r : RK Γ T.H0 T.Hd vs l') :
    Sv Γ ⟨T.F, T.H0, T.Hd, upd T.H p (.dK vs), T.P⟩ σ (ρ.set i (.dic l')) ∧ Ext Γ T ⟨T.F, T.H0, T.Hd, upd T.H p (.dK vs), T.P⟩ :=
  S.put hi rfl hs nF n0 nd (fun T' h1 h2 h3 h4 => ⟨p, vs, rfl, h4, by rw [h2, h3]; exact r, by rw [h1]; exact nF, by rw [h2]; exact n0, by rw [h3]; exact nd⟩) rfl
/-- x = {} -/
@[simp] def wSetD (i : Nat) : WS := fun D ρ => D.nx (ρ.set i (.dic []))
theorem ss_setD : SS Γ (tAsg tDNewK (gName i)) (wSetD i) := ⟨fun {T σ ρ D D'} S hw a b c d => by
  intro p n
  have g := Gr.priv (o := .dK []) S.ok n
  have S1 := S.grow g
  exact a ⟨T.F, T.H0, T.Hd, upd T.H p (.dK []), T.P⟩ _ _ (S1.set (c := .dic []) ⟨p, [], rfl, upd_same, .nil, none_of_le S.ok.sF n, none_of_le S.ok.s0 n, none_of_le S.ok.sd n⟩ fun _ j p' c' e2 e3 pc e4 => by cases e2; exact absurd e4 (fresh_priv S n j c' e3 pc)) g.ext hw⟩
theorem vs_setD {x : Str} {pos' dpos : Pos} (hN : X.N.Nodup) (hi : X.N[i]? = some x) (hx : Loc X.env.scope x) (hs : swapsWith (.Dict [] [] dpos) (some (.Name x pos')) pos.line X.env = pure false := by rfl) (hf : X.fn x = true ∨ X.env.scope.names.lookup x = some .local := by first | exact .inl rfl | exact .inr rfl | assumption) :
    VS Γ X (.Assign [.Name x pos'] (.Dict [] [] dpos) pos) (tAsg tDNewK (gName i)) (wSetD i) := ⟨ps_set hN hi hx pe_dnewK hs hf, ss_setD⟩
/-- x[k] = e -/
@[simp] def wDput (i : Nat) (w wk : WE) : WS := fun D ρ => w ρ fun d ρ1 => cDic (ρ1.getD i .no) fun _ => wk ρ1 fun j ρ2 => oK j.keyO fun k => cDic (ρ2.getD i .no) fun l => l.length < sizeLine ∧ D.nx (ρ2.set i (.dic (putKD l k d)))
theorem ss_dput (h : SE Γ te we) (hk : SE Γ ti wi) : SS Γ (sDPut (tVar i) ti te) (wDput i we wi) := ⟨fun {T σ ρ D D'} S hw a b c d => h.h S hw fun v T1 x ρ1 S1 e1 r1 q1 => by
  obtain ⟨p, vs, l, hi', hs, hp, r, nF, n0, nd, q1⟩ := S1.dicAt q1
  refine ⟨_, hs, hk.h S1 q1 fun u T2 j ρ2 S2 e2 r2 q2 => ?_⟩
  obtain ⟨k, ek, q2⟩ := oK_of q2
  obtain ⟨p', vs', l', hi', hs', hp, r, nF, n0, nd, hz, hw⟩ := S2.dicAt q2
  rw [hs] at hs'; cases hs'
  obtain ⟨S3, e3⟩ := S2.putDK (l' := putKD l' k x) hi' hs nF n0 nd (r.put k (R.ext e2 r1))
  cases (RO.sh r2).key ek
  exact ⟨_, _, rfl, DPut.k hp (by rw [r.len]; exact hz), a _ σ _ S3 ((e1.trans e2).trans e3) hw⟩⟩
theorem vs_dput {ei : Expr} {pos' : Pos} (hu : X.A.units + 1 < cLine) (ho : PE X o (tVar i)) (hi : VE Γ X ei ti wi) (hv : VE Γ X e te we) (hs : swapsWith e (some (.Subscript o ei pos')) pos.line X.env = pure false := by rfl) :
    VS Γ X (.Assign [.Subscript o ei pos'] e pos) (sDPut (tVar i) ti te) (wDput i we wi) := ⟨ps_dput hu ho hi.pe hv.pe hs, ss_dput hv.se hi.se⟩
/-- x[k] -/
@[simp] def wDget (w : WO) (wk : WE) : WE := fun ρ Q => w ρ fun a ρ1 => wk ρ1 fun j ρ2 => oK j.keyO fun k => rs1 ρ2 a fun d => match d with
  | .dct l => oK (valD l k) fun v => Q v ρ2
  | _ => False
theorem ve_dget {ei : Expr} {tk : TE} {wk : WE} (hu : X.A.units + 1 < cLine) (ho : VO Γ X o te wo) (hi : VE Γ X ei tk wk) (hsl : NoSl ei) : VE Γ X (.Subscript o ei pos) (tDGet te tk) (wDget wo wk) := ⟨pe_dget hu ho.pe hi.pe hsl, ⟨fun {T σ ρ Q Q'} S hw q => ho.se.h S hw fun v T1 a ρ1 S1 e1 r1 q1 => hi.se.h S1 q1 fun u T2 j ρ2 S2 e2 r2 q2 => by
  obtain ⟨k, ek, q2⟩ := oK_of q2
  obtain ⟨d, rd, q2⟩ := S2.rs1 (r1.ext e2) q2
  cases d <;> first | exact q2.elim | skip
  obtain ⟨v', ev, q2⟩ := oK_of q2
  obtain ⟨p, vs, rfl, hp, rk⟩ := rd.dct S2.ok
  obtain ⟨z, hz, rz⟩ := (rk.val k).2 _ ev
  cases (RO.sh r2).key ek
  exact ⟨p, z, rfl, .inl ⟨vs, k, .inl hp, rfl, hz.symm⟩, q z T2 v' ρ2 S2 (e1.trans e2) rz q2⟩⟩⟩
/-- in, not in: a list, a tuple, a dict -/
def rDIn (neg : Bool) : R2 := fun y x H Q => ∃ a o, x = .ref a ∧ DGet H a y o ∧ Q (.bl (if neg then !o.isSome else o.isSome)) H
theorem op_din (hu : X.A.units + 1 < cLine) : OpR X (compareOp .In) (rDIn false) := by
  intro pins s σ H y x iv u Q I ry rx h
  obtain ⟨a, ov, ex, g, q2⟩ := h
  subst ex
  obtain rfl : u = Value.ref a := rx
  exact d_in hu I g ry fun s3 I3 => ⟨.bl ov.isSome, H, I3, rfl, q2⟩
theorem op_dnotin (hu : X.A.units + 1 < cLine) : OpR X (compareOp .NotIn) (rDIn true) := by
  intro pins s σ H y x iv u Q I ry rx h
  obtain ⟨a, ov, ex, g, q2⟩ := h
  subst ex
  obtain rfl : u = Value.ref a := rx
  exact d_notIn hu I g ry fun s3 I3 => ⟨.bl (!ov.isSome), H, I3, rfl, q2⟩
abbrev rInP (K : PySem.W.Frag) (neg : Bool) : R2 := fun x y H Q => rIn K neg x y H Q ∨ rDIn neg x y H Q
theorem op_inP {K : PySem.W.Frag} (h : X.K = K) (hu : X.A.units + 1 < cLine) : OpR X (compareOp .In) (rInP K false) := by subst h; exact opr_or op_in_seq (op_din hu)
theorem op_notInP {K : PySem.W.Frag} (h : X.K = K) (hu : X.A.units + 1 < cLine) : OpR X (compareOp .NotIn) (rInP K true) := by subst h; exact opr_or op_notIn_seq (op_dnotin hu)
@[simp] def gInP (neg : Bool) : G2
  | x, .lst l, k => (x.flat = true ∧ l.all D.flat = true) ∧ k (.bl (if neg then !x.mem l else x.mem l))
  | x, .tup l, k => (x.flat = true ∧ l.all D.flat = true) ∧ k (.bl (if neg then !x.mem l else x.mem l))
  | x, .dct l, k => oK x.keyO fun z => k (.bl (if neg then !(valD l z).isSome else (valD l z).isSome))
  | _, _, _ => False
theorem os_inP {neg : Bool} : OS Γ (rInP Γ.K neg) (gInP neg) := ⟨fun {T x y a b Q Q'} ok rx ry h q => by
  cases b <;> first | exact h.elim | skip
  · obtain ⟨p, vs, rfl, hp, rp⟩ := ry.tup ok
    obtain ⟨⟨f1, f2⟩, h⟩ := h
    refine .inl ⟨p, vs, rfl, .inr hp, (rx.fl f1).flat f1, rp.flat f2, ?_⟩
    rw [rp.inV (rx.fl f1) f1 f2]
    exact gr_sc ok q (.bl _) h
  · obtain ⟨p, vs, rfl, hp, rp⟩ := ry.lst ok
    obtain ⟨⟨f1, f2⟩, h⟩ := h
    refine .inl ⟨p, vs, rfl, .inl (SqL.of hp), (rx.fl f1).flat f1, rp.flat f2, ?_⟩
    rw [rp.inV (rx.fl f1) f1 f2]
    exact gr_sc ok q (.bl _) h
  · obtain ⟨k, ek, h⟩ := oK_of h
    obtain ⟨p, vs, rfl, hp, rk⟩ := ry.dct ok
    cases rx.key ek
    refine .inr ⟨p, _, rfl, DGet.k hp, ?_⟩
    rw [(rk.val k).1]
    exact gr_sc ok q (.bl _) h⟩
/-! ### instances -/
@[simp] def putD (f : Str) (v : D) : List (Str × D) → List (Str × D)
  | [] => [(f, v)]
  | (g, x) :: r => if g = f then (g, v) :: r else (g, x) :: putD f v r
theorem RF.put {H0 Hd : Hp} {v : V} {d : D} (f : Str) (hv : R Γ H0 Hd v d) : ∀ {vs : List (Str × V)} {l : List (Str × D)}, RF Γ H0 Hd vs l → RF Γ H0 Hd (putF f v vs) (putD f d l)
  | _, _, .nil => .cons hv .nil
  | _, _, .cons (f := g) h t => by
    unfold putF putD
    split
    · exact .cons hv t
    · exact .cons h (t.put f hv)
theorem RF.len {H0 Hd : Hp} : ∀ {vs : List (Str × V)} {l : List (Str × D)}, RF Γ H0 Hd vs l → vs.length = l.length
  | _, _, .nil => rfl
  | _, _, .cons _ t => by rw [List.length_cons, List.length_cons, t.len]
theorem Sv.objAt {k : Addr → Str → List (Str × D) → Prop} (S : Sv Γ T σ ρ) (h : cObj (ρ.getD i .no) k) : ∃ p c fs C dx vf, ρ[i]? = some (.obj p c fs) ∧ σ[i]? = some (some (.ref p)) ∧ T.H p = some (.ins C dx vf) ∧ Γ.mg c = some (.ref C) ∧ Cls Γ.K C ∧ (∀ f v, vf.lookup f = some v → NoAttr Γ.K C f) ∧ RF Γ T.H0 T.Hd vf fs ∧ T.F p = none ∧ T.H0 p = none ∧ T.Hd p = none ∧ k p c fs := by
  obtain ⟨p, c, l, e, h⟩ := cObj_of h
  have e' := getD_of e (by simp)
  obtain ⟨s, e1, C, dx, vf, e2, hp, m, cl, na, r, n1, n2, n3⟩ := S.cell i _ e'
  exact ⟨p, c, l, C, dx, vf, e', by rw [e1, e2], hp, m, cl, na, r, n1, n2, n3, h⟩
@[simp] def wFldS (i : Nat) (c : Str) (f : Str) (w : WE) : WS := fun D ρ => w ρ fun d ρ1 => cObj (ρ1.getD i .no) fun p c' fs => (c' = c ∧ fs.length < 1000) ∧ D.nx (ρ1.set i (.obj p c (putD f d fs)))
theorem ss_fldS {c f : Str} (na : ∀ C, Γ.mg c = some (.ref C) → NoAttr Γ.K C f) (h : SE Γ te we) : SS Γ (sFld Γ.K (tVar i) te f) (wFldS i c f we) := ⟨fun {T σ ρ D D'} S hw a b c' d => h.h S hw fun v T1 x ρ1 S1 e1 r1 q1 => by
  obtain ⟨p, c2, fs, C, dx, vf, hi', hs, hp, m, cl, nat, r, nF, n0, nd, ⟨rfl, hz⟩, hw⟩ := S1.objAt q1
  obtain ⟨S2, e2⟩ := S1.put (c' := .obj p c2 (putD f x fs)) (o' := .ins C dx (putF f v vf)) hi' rfl hs nF n0 nd (fun T' h1 h2 h3 h4 => ⟨C, dx, _, rfl, h4, m, cl, fun g u e => by
    rw [lookup_putF] at e
    split at e
    · rename_i z; rw [z]; exact na C m
    · exact nat g u e, by rw [h2, h3]; exact r.put f r1, by rw [h1]; exact nF, by rw [h2]; exact n0, by rw [h3]; exact nd⟩) rfl
  exact ⟨_, hs, p, C, dx, vf, rfl, hp, cl, na C m, by rw [r.len]; exact hz, a _ σ _ S2 (e1.trans e2) hw⟩⟩
theorem kps_fld {f : Str} {pos' : Pos} {K : PySem.W.Frag} (hK : X.K = K) (ha : PE X o ti) (hv : PE X e te) (hs : swapsWith e (some (.Attribute o f pos')) pos.line X.env = pure false) : PS X (.Assign [.Attribute o f pos'] e pos) (sFld K ti te f) := by subst hK; exact ps_fld ha hv hs
theorem vs_fldS {c f : Str} {pos' : Pos} (hK : X.K = Γ.K) (na : ∀ C, Γ.mg c = some (.ref C) → NoAttr Γ.K C f) (ho : PE X o (tVar i)) (h : VE Γ X e te we) (hs : swapsWith e (some (.Attribute o f pos')) pos.line X.env = pure false) :
    VS Γ X (.Assign [.Attribute o f pos'] e pos) (sFld Γ.K (tVar i) te f) (wFldS i c f we) := ⟨kps_fld hK ho h.pe hs, ss_fldS na h.se⟩
/-- self.f of one's own instance -/
@[simp] def wFldO (i : Nat) (f : Str) : WE := fun ρ Q => cObj (ρ.getD i .no) fun _ _ fs => oK (fs.lookup f) fun x => Q x ρ
theorem ve_fldO {f : Str} (hK : X.K = Γ.K) (ho : PE X o (tVar i)) (hb : attributeBase o f X.env (eval o X.env) = eval o X.env) : VE Γ X (.Attribute o f pos) (tFld Γ.K (tVar i) f) (wFldO i f) := ⟨kpe_fld hK ho hb, ⟨fun {T σ ρ Q Q'} S hw q => by
  obtain ⟨p, c2, fs, C, dx, vf, hi', hs, hp, m, cl, nat, r, nF, n0, nd, hw⟩ := S.objAt hw
  obtain ⟨x, hx, hw⟩ := oK_of hw
  obtain ⟨v, hv, rv⟩ := r.lookup hx
  exact ⟨_, hs, p, C, dx, vf, v, rfl, hp, cl, nat _ _ hv, hv, q v T x ρ S .refl rv hw⟩⟩⟩
/-- what an __init__ promises: its fields by its meaning W -/
abbrev WN := List D → (List (Str × D) → Prop) → Prop
def spN (Γ : Gx) (c : Str) (W : WN) : Sp := fun vs H Q _ => ∃ T x C dx us ds P, vs = .ref x :: us ∧ T.H = H ∧ T.Ok ∧ H x = some (.ins C dx []) ∧ Γ.mg c = some (.ref C) ∧ Cls Γ.K C ∧ T.F x = none ∧ T.H0 x = none ∧ T.Hd x = none ∧ RA Γ T.H0 T.Hd us ds ∧ W ds P ∧
  ∀ T' dx' vf fs, T'.Ok → Ext Γ T T' → T'.H x = some (.ins C dx' vf) → T'.F x = none → T'.H0 x = none → T'.Hd x = none → (∀ f v, vf.lookup f = some v → NoAttr Γ.K C f) → RF Γ T'.H0 T'.Hd vf fs → P fs → Q .non T'.H
@[simp] def wInit (n m : Nat) (c : Str) (b : WS) : WN := fun ds Q => ds.length = n ∧ ∀ p, b { nx := fun ρ => cObj (ρ.getD 0 .no) fun p' c' fs => p' = p ∧ c' = c ∧ Q fs, rt := fun _ => False } (.obj p c [] :: (ds.map Cell.val ++ List.replicate (m - n - 1) .no))
theorem spN_len {c : Str} {W : WN} {n : Nat} {vs : List V} {H : Hp} {Q : VK} {E : XK} (hW : ∀ {ds P}, W ds P → ds.length = n) (h : spN Γ c W vs H Q E) : vs.length = n + 1 := by
  obtain ⟨T, x, C, dx, us, ds, P, rfl, rfl, ok, hx, m, cl, n1, n2, n3, ra, hw, q⟩ := h
  rw [List.length_cons, ra.len, hW hw]
theorem okN {c : Str} {N : List Str} {body : List Stmt} {t : TS} {b : WS} {vs : List V} {H : Hp} {Q : VK} {E : XK} {n m : Nat} (hN : N.length = m) (hb : VB Γ X body t b) (h : spN Γ c (wInit n m c b) vs H Q E) :
    ∃ t, PSs X body t ∧ t { nx := fun _ H' => Q .non H', rt := Q } (L2.start N vs) H := by
  obtain ⟨T, x, C, dx, us, ds, P, rfl, rfl, ok, hx, mg, cl, n1, n2, n3, ra, ⟨hl, hw⟩, q⟩ := h
  subst hl hN
  refine ⟨t, hb.pe, hb.se.h (D := { nx := fun ρ => cObj (ρ.getD 0 .no) fun p' c' fs => p' = x ∧ c' = c ∧ P fs, rt := fun _ => False }) (ρ := .obj x c [] :: (ds.map Cell.val ++ List.replicate (N.length - ds.length - 1) .no)) ?_ (hw x) (fun T' σ' ρ' S' e' h' => ?_) (fun T' v d ok' e' r' h' => h'.elim) (fun _ _ _ _ _ h => h.elim) (fun _ _ _ _ _ h => h.elim)⟩
  · have hat : ∀ {i : Nat} {c' : Cell}, (Cell.obj x c [] :: (ds.map Cell.val ++ List.replicate (N.length - ds.length - 1) Cell.no))[i]? = some c' → (i = 0 ∧ c' = .obj x c []) ∨ c' = .no ∨ ∃ j d, i = j + 1 ∧ c' = .val d ∧ ds[j]? = some d ∧ j < ds.length := fun {i c'} e => by
      cases i with
      | zero => simp at e; exact .inl ⟨rfl, e.symm⟩
      | succ i =>
        rw [List.getElem?_cons_succ] at e
        by_cases hi : i < ds.length
        · rw [List.getElem?_append_left (by simpa using hi), List.getElem?_map] at e
          cases z : ds[i]? with
          | none => rw [z] at e; cases e
          | some d => rw [z] at e; cases e; exact .inr (.inr ⟨i, d, rfl, rfl, z, hi⟩)
        · rw [List.getElem?_append_right (by simpa using hi), List.getElem?_replicate] at e
          split at e
          · cases e; exact .inr (.inl rfl)
          · cases e
    refine ⟨ok, by simp [L2.start, ra.len]; omega, fun i c' e => ?_, fun i j p c1 c2 e1 e2 p1 p2 _ _ => ?_⟩
    · have hl : i < (L2.start N (V.ref x :: us)).length := by
        obtain ⟨z, _⟩ := List.getElem?_eq_some_iff.mp e
        simp [L2.start, ra.len] at z ⊢
        omega
      rcases hat e with ⟨rfl, rfl⟩ | rfl | ⟨j, d, rfl, rfl, hd, hj⟩
      · exact ⟨some (.ref x), by simp [L2.start], C, dx, [], rfl, hx, mg, cl, (by intro f v e; cases e), .nil, n1, n2, n3⟩
      · exact ⟨_, List.getElem?_eq_getElem hl, trivial⟩
      · obtain ⟨v, hv, r⟩ := ra.get hd
        refine ⟨some v, ?_, v, rfl, r⟩
        unfold L2.start
        rw [List.map_cons, List.cons_append, List.getElem?_cons_succ, List.getElem?_append_left (by simpa [ra.len] using hj), List.getElem?_map, hv]
        rfl
    · rcases hat e1 with ⟨rfl, rfl⟩ | rfl | ⟨j, d, rfl, rfl, _⟩
      · rcases hat e2 with ⟨rfl, rfl⟩ | rfl | ⟨j, d, rfl, rfl, _⟩
        · rfl
        · cases p2
        · cases p2
      · cases p1
      · cases p1
  · obtain ⟨p, c2, fs, C', dx', vf, hi', hs, hp, m', cl', nat, r, nF, n0, nd, rfl, rfl, hP⟩ := S'.objAt h'
    have z : C' = C := by
      rw [mg] at m'
      injection m' with m'
      injection m' with m'
      exact m'.symm
    subst z
    exact q T' dx' vf fs S'.ok e' hp nF n0 nd nat r hP
@[simp] def wMake (c : Str) (W : WN) (dd : List D) (w : WA) : WE := fun ρ Q => w ρ fun as ρ1 => shN as fun ds => W (ds ++ dd) fun fs => Q (.obj c fs) ρ1
variable {CX : CXT} {k : Nat} {f C : Addr} {fd : FuncData} {ps : List Str} {W : WN} {E : XK} {x : Str} {p : Pos} {t : TA} {w : WA} {dv : List V} {ds : List Value} {dd : List D} {c : Str}
theorem se_make (hm : Γ.mg c = some (.ref C)) (hcl : Cls Γ.K C) (hd : ∀ H0 Hd, RA Γ H0 Hd dv dd) (ha : SA Γ t w) : SE Γ (tMake C (spN Γ c W) dv E t) (wMake c W dd w) := ⟨fun {T σ ρ Q Q'} S hw q => ha.h S hw fun vs T1 as ρ1 S1 e1 r1 q1 => by
  obtain ⟨ds, ra, q1⟩ := shN_of r1 q1
  intro x dx nx ndx ne
  have nxF := none_of_le S1.ok.sF nx
  have nx0 := none_of_le S1.ok.s0 nx
  have nxd := none_of_le S1.ok.sd nx
  have up : ∀ {b y}, T1.H b = some y → upd (upd T1.H dx (.own x)) x (.ins C dx []) b = some y := fun {b y} e => by
    rw [upd_ne (ne_of_none e nx), upd_ne (ne_of_none e ndx)]; exact e
  refine ⟨⟨frH T1.H0 T1.Hd T1.H, T1.H0, T1.Hd, upd (upd T1.H dx (.own x)) x (.ins C dx []), fun _ => False⟩, x, C, dx, vs ++ dv, ds ++ dd, _, rfl, rfl, ⟨fun b y e => up (frH_some e).2.2, fun b y e => up (S1.ok.s0 _ _ e), fun b y e => up (S1.ok.sd _ _ e), fun {b y} e => (frH_some e).1, fun {b y} e => (frH_some e).2.1, S1.ok.zd⟩, upd_same, hm, hcl, ?_, nx0, nxd, ra.app (hd _ _), q1, ?_⟩
  · cases z : frH T1.H0 T1.Hd T1.H x with
    | none => exact z
    | some y => have := (frH_some z).2.2; rw [nx] at this; cases this
  intro T' dx' vf fs ok e hx' hF' h0' hd' nat rf hP
  have fF : ∀ {b y}, T1.H b = some y → T1.H0 b = none → T1.Hd b = none → T'.F b = some y := fun {b y} e1 e2 e3 => by
    rw [e.f]
    show frH T1.H0 T1.Hd T1.H b = some y
    rw [frH_yes e2 e3]; exact e1
  have Fo : ∀ {b y}, T1.F b = some y → T'.F b = some y := fun {b y} eF => fF (S1.ok.sF _ _ eF) (S1.ok.F0 eF) (S1.ok.Fd eF)
  have S' : Sv Γ ⟨T1.F, T'.H0, T'.Hd, T'.H, T1.P⟩ σ ρ1 := S1.after ⟨fun b y e => ok.sF _ _ (Fo e), ok.s0, ok.sd, fun {b y} e => ok.F0 (Fo e), fun {b y} e => ok.Fd (Fo e), ok.zd⟩ e.s0 e.da fun p y h1 h2 h3 => ⟨ok.sF _ _ (fF h1 h2 h3), ok.F0 (fF h1 h2 h3), ok.Fd (fF h1 h2 h3)⟩
  obtain ⟨S2, E2⟩ := S'.freezeNew hx' nxF h0' hd' (fresh_priv S1 nx)
  have E1 : Ext Γ T1 ⟨T1.F, T'.H0, T'.Hd, T'.H, T1.P⟩ := ⟨rfl, rfl, e.s0, e.da⟩
  refine ⟨rfl, q (.ref x) ⟨T1.F, upd T'.H0 x (.ins C dx' vf), T'.Hd, T'.H, T1.P⟩ (.obj c fs) ρ1 S2 ((e1.trans E1).trans E2) ?_ hP⟩
  exact .obj upd_same hm hcl nat (rf.mono E2.s0 E2.da)⟩
theorem ve_make (hK : X.K = Γ.K) (hmg : Γ.mg c = some (.ref C)) (hcl : Cls Γ.K C) (M : Mk X.K C f) (F : FnOk X.prog X.w X.K X.mg X.base CX k f fd ps (spN Γ c W)) (hr : Room (k + 1) X.A) (hg : Gl X x) (hm : X.mg x = some (.ref C)) (hb : Binds X.K fd ps ds) (hdv : Vals dv ds) (hd : ∀ H0 Hd, RA Γ H0 Hd dv dd) (hx : Passes CX X E)
    (ha : VA Γ X (e :: es) t w) (hdb : (x == ("__debug__" : Str)) = false := by decide) (he : starEach (e :: es) X.env = (false, eval e X.env) :: starEach es X.env := by rfl) (hpl : (backTo pos (starEach es X.env)).any (·.1) = false := by rfl) :
    VE Γ X (.Call (.Name x p) (e :: es) [] pos) (tMake C (spN Γ c W) dv E t) (wMake c W dd w) := ⟨pe_make M F hr hg hm hb hdv hx ha.pe hdb he hpl, se_make hmg hcl hd ha.se⟩
end
end Vl


namespace Vl
open PySem PySem.Spec PyProof.Rows L2 Hl

/-! ### set(xs) of ints, sorted(set(xs)) -/
def insU (x : Int) : List Int → List Int
  | [] => [x]
  | y :: r => if x < y then x :: y :: r else if x = y then y :: r else y :: insU x r
def sortU : List Int → List Int
  | [] => []
  | x :: r => insU x (sortU r)
theorem insU_mem (x : Int) : ∀ (l : List Int) (z : Int), z ∈ insU x l ↔ z = x ∨ z ∈ l
  | [], z => by simp [insU]
  | y :: r, z => by
    unfold insU
    split
    · simp
    · split
      · rename_i e; subst e; simp
      · rw [List.mem_cons, insU_mem x r z, List.mem_cons]
        constructor
        · rintro (h | h | h)
          · exact .inr (.inl h)
          · exact .inl h
          · exact .inr (.inr h)
        · rintro (h | h | h)
          · exact .inr (.inl h)
          · exact .inl h
          · exact .inr (.inr h)
theorem sortU_mem : ∀ (l : List Int) (z : Int), z ∈ sortU l ↔ z ∈ l
  | [], z => by simp [sortU]
  | x :: r, z => by rw [sortU, insU_mem, sortU_mem r, List.mem_cons]
theorem insU_sorted (x : Int) : ∀ l : List Int, l.Pairwise (· < ·) → (insU x l).Pairwise (· < ·)
  | [], _ => by simp [insU]
  | y :: r, h => by
    unfold insU
    rw [List.pairwise_cons] at h
    split
    · rename_i hxy
      refine List.pairwise_cons.mpr ⟨fun z hz => ?_, List.pairwise_cons.mpr h⟩
      rcases List.mem_cons.mp hz with rfl | hz
      · exact hxy
      · exact Int.lt_trans hxy (h.1 z hz)
    · split
      · exact List.pairwise_cons.mpr h
      · refine List.pairwise_cons.mpr ⟨fun z hz => ?_, insU_sorted x r h.2⟩
        rcases (insU_mem x r z).mp hz with rfl | hz
        · omega
        · exact h.1 z hz
theorem sortU_sorted : ∀ l : List Int, (sortU l).Pairwise (· < ·)
  | [] => .nil
  | x :: r => insU_sorted x _ (sortU_sorted r)
theorem nodup_of_lt {l : List Int} (h : l.Pairwise (· < ·)) : l.Nodup := h.imp fun h => by omega
theorem lt_sorted_eq {l m : List Int} (h1 : l.Pairwise (· < ·)) (h2 : m.Pairwise (· < ·)) (h : ∀ z, z ∈ l ↔ z ∈ m) : l = m := by
  refine perm_sorted_eq ?_ (h1.imp fun h => Int.le_of_lt h) (h2.imp fun h => Int.le_of_lt h)
  exact (List.perm_ext_iff_of_nodup (nodup_of_lt h1) (nodup_of_lt h2)).mpr h
def rSortedSet' (w : World) : List V → Hp → VK → Prop := fun vs H Q => ∃ (a : Addr) (S : Int → Bool) (n : Nat), vs = [V.ref a] ∧ H a = some (SetO w a S n) ∧ (∀ m : List Int, m.Nodup → (∀ k, S k = true ↔ k ∈ m) → m.length < 64) ∧
  ∀ (ns : List Int) (p : Addr), ns.Pairwise (· < ·) → (∀ k : Int, k ∈ ns ↔ S k = true) → H p = none → Q (.ref p) (upd H p (.lst (ns.map V.int)))
theorem cr_sortedSet' {X : Cx} (hc : X.calm = true) : CallR X (.builtin "sorted") (rSortedSet' X.w) := by
  intro pins s σ H vs us Q I r h
  obtain ⟨a, S, n, rfl, ha, h64, q⟩ := h
  obtain ⟨o, es, ep, t, ho, ex, hd, hg, hnd, hm, hb, hf, hn, hr⟩ := setO_get I ha
  refine cr_sortedSet hc pins s σ H _ us Q I r ⟨a, S, n, rfl, ha, ?_, fun ns p h1 h2 _ h4 => q ns p h1 h2 h4⟩
  have := h64 _ hnd hm
  rw [List.length_map, Array.length_toList, hn] at this
  exact this
/-- set(xs), fewer than 4096 ints -/
def rSetI' (K : PySem.W.Frag) (w : World) : List V → Hp → VK → Prop := fun vs H Q => ∃ (a : Addr) (ns : List Int), vs = [V.ref a] ∧ (SqT K H a (ns.map V.int) ∨ SqL K H a (ns.map V.int)) ∧ ns.length + 1 < 4096 ∧
  ∀ (p : Addr) (c : Nat), H p = none → Q (.ref p) (upd H p (SetO w p (fun j => decide (j ∈ ns)) c))
theorem cr_setTI' {X : Cx} (hc : X.calm = true) : CallR X (.type "set") (rSetI' X.K X.w) := by
  intro pins s σ H vs us Q I r h
  obtain ⟨a, ns, rfl, hs, hn, q⟩ := h
  rw [Vals.ref1 r]
  have hf := I.hok.fresh (Nat.le_refl _)
  rcases hs with hs | hs
  · obtain ⟨its, rv, hl, hz⟩ := I.tuple hs
    refine call_set_tupI ns (I.ok.hd hc) (show s.heap.IsTuple a its.toArray from hl) (ints_of_vals rv) (by unfold scanBound; omega) fun h' tk c R hcn k => ?_
    exact ⟨.ref _, upd H s.heap.objs.size (SetO X.w s.heap.objs.size (fun j => decide (j ∈ ns)) c), I.laid (t' := tk) k (Nat.le_refl _) (setO_new R), rfl, q _ c hf⟩
  · obtain ⟨its, rv, hl, hz⟩ := I.list hs
    refine call_set_lstI ns (I.ok.hd hc) hl.isList (ints_of_vals rv) (by unfold scanBound; omega) fun h' tk c R hcn k => ?_
    exact ⟨.ref _, upd H s.heap.objs.size (SetO X.w s.heap.objs.size (fun j => decide (j ∈ ns)) c), I.laid (t' := tk) k (Nat.le_refl _) (setO_new R), rfl, q _ c hf⟩
section
variable {Γ : Gx}
@[simp] def gSet : GN
  | [.lst l], k => oK (intsO l) fun ns => ns.length + 1 < 4096 ∧ k (.set ns)
  | [.tup l], k => oK (intsO l) fun ns => ns.length + 1 < 4096 ∧ k (.set ns)
  | _, _ => False
theorem kcr_set {X : Cx} {K : PySem.W.Frag} {w : World} (h : X.K = K) (h' : X.w = w) (hc : X.calm = true) : CallR X (.type "set") (rSetI' K w) := by subst h h'; exact cr_setTI' hc
theorem cs_set : CS Γ (rSetI' Γ.K Γ.w) gSet := ⟨fun {T xs as Q Q'} ok r h q => by
  unfold gSet at h
  split at h
  · obtain ⟨v, rfl, r'⟩ := r.one
    obtain ⟨ns, e, hn, h'⟩ := oK_of h
    cases intsO_eq e
    obtain ⟨p, vs, rfl, hp, rp⟩ := r'.lst ok
    cases rp.ints
    exact ⟨p, ns, rfl, .inr (SqL.of hp), hn, fun a c n => gr_new ok q n (.set upd_same) h'⟩
  · obtain ⟨v, rfl, r'⟩ := r.one
    obtain ⟨ns, e, hn, h'⟩ := oK_of h
    cases intsO_eq e
    obtain ⟨p, vs, rfl, hp, rp⟩ := r'.tup ok
    cases rp.ints
    exact ⟨p, ns, rfl, .inl hp, hn, fun a c n => gr_new ok q n (.set upd_same) h'⟩
  · exact h.elim⟩
abbrev rSortedP3 (K : PySem.W.Frag) (w : World) : List V → Hp → VK → Prop := fun xs H Q => rSortedP2 K xs H Q ∨ rSortedSet' w xs H Q
theorem cr_sortedP3 {X : Cx} {K : PySem.W.Frag} {w : World} (h : X.K = K) (h' : X.w = w) (hc : X.calm = true) : CallR X (.builtin "sorted") (rSortedP3 K w) := by subst h'; exact cr_or (cr_sortedP2 h) (cr_sortedSet' hc)
@[simp] def fSortedP : FN
  | [.lst l], k => oK (intsO l) fun ns => k ((sortI ns).map D.int)
  | [.tup l], k => oK (intsO l) fun ns => k ((sortI ns).map D.int)
  | [.set ns], k => (sortU ns).length < 64 ∧ k ((sortU ns).map D.int)
  | _, _ => False
theorem csf_sortedP : CSF Γ (rSortedP3 Γ.K Γ.w) fSortedP := ⟨fun {T xs as Q Q'} ok r h q => by
  unfold fSortedP at h
  split at h
  · exact .inl (csf_sorted.h ok r h q)
  · exact .inl (csf_sorted.h ok r h q)
  · rename_i k ns
    obtain ⟨v, rfl, r'⟩ := r.one
    cases r' with
    | sh r' =>
      cases r' with
      | set hs =>
        refine .inr ⟨_, _, _, rfl, ok.s0 _ _ hs, fun m h1 h2 => ?_, fun ms p h1 h2 n => ?_⟩
        · have e : m.Perm (sortU ns) := (List.perm_ext_iff_of_nodup h1 (nodup_of_lt (sortU_sorted ns))).mpr fun z => by rw [← h2 z, sortU_mem, decide_eq_true_eq]
          rw [e.length_eq]; exact h.1
        · rw [lt_sorted_eq h1 (sortU_sorted ns) fun z => by rw [h2 z, sortU_mem, decide_eq_true_eq]]
          exact q p _ _ n (ra_ints _) h.2
  · exact h.elim⟩
end
end Vl

namespace Vl
open PySem PySem.Spec PyProof.Rows L2 Hl

/-! ### a source of draws: [[great cells], stir] -/
def Frm (w q : Addr) (H H' : Hp) : Prop := ∀ a o, a ≠ w → a ≠ q → H a = some o → H' a = some o
def HeapAt (H : Hp) (w q : Addr) : Prop := ∃ (cs : List Int) (st : Int), H w = some (.lst [.ref q, .int st]) ∧ H q = some (.lst (cs.map V.int)) ∧ (∀ c ∈ cs, 0 ≤ c) ∧ cs.length ≤ 63 ∧ 0 ≤ st ∧ st < 2147483647
theorem Frm.refl (w q : Addr) (H : Hp) : Frm w q H H := fun _ _ _ _ h => h
theorem Frm.trans {w q : Addr} {H H' H'' : Hp} (a : Frm w q H H') (b : Frm w q H' H'') : Frm w q H H'' := fun x o h1 h2 h => b x o h1 h2 (a x o h1 h2 h)
theorem Frm.same {w q : Addr} {H H' : Hp} (e : Same H H') : Frm w q H H' := fun x o _ _ h => e x o h
theorem Frm.w {w q : Addr} {H H' : Hp} {o : HO} (e : Frm w q H H') : Frm w q H (upd H' w o) := fun x u h1 h2 h => by rw [upd_ne h1]; exact e x u h1 h2 h
theorem Frm.q {w q : Addr} {H H' : Hp} {o : HO} (e : Frm w q H H') : Frm w q H (upd H' q o) := fun x u h1 h2 h => by rw [upd_ne h2]; exact e x u h1 h2 h
theorem HeapAt.same {H H' : Hp} {w q : Addr} (e : Same H H') (h : HeapAt H w q) : HeapAt H' w q := by
  obtain ⟨cs, st, h1, h2, h3⟩ := h
  exact ⟨cs, st, e _ _ h1, e _ _ h2, h3⟩
def DAh (H : Hp) (w : Addr) : Prop := ∃ q, HeapAt H w q
/-- the surroundings of a law: the text and its draws -/
def gxOf (K : PySem.W.Frag) (w : World) (mg : Str → Option Value) : Gx := ⟨K, w, mg, DAh, fun e ⟨q, h⟩ => ⟨q, h.same e⟩⟩
def sp_draw : Sp := fun vs H Q _ => ∃ (w q : Addr) (many : Int), vs = [.ref w, .int many] ∧ HeapAt H w q ∧ 0 < many ∧ many < 1073741824 ∧ ∀ r H', 0 ≤ r → r < many → Frm w q H H' → HeapAt H' w q → Q (.int r) H'
def sp_heap (K : PySem.W.Frag) : Sp := fun vs H Q _ => ∃ (a : Addr) (ns : List Int), vs = [.ref a] ∧ SqL K H a (ns.map V.int) ∧ ns.length ≤ 63 ∧ ∀ p q H', H p = none → H q = none → Same H H' → HeapAt H' p q → Q (.ref p) H'
/-- a draw's meaning: any number below many -/
def W_draw : WF1 := fun ds Q => ∃ many : Int, ds = [.hnd, .int many] ∧ 0 < many ∧ many < 1073741824 ∧ ∀ r : Int, 0 ≤ r → r < many → Q (.int r)
def W_heap : WF1 := fun ds Q => ∃ ns : List Int, ds = [.scr ns] ∧ ns.length ≤ 63 ∧ Q .hnd
theorem heap_nr {H : Hp} {w q a q' : Addr} (h : HeapAt H w q) (h' : HeapAt H a q') : a ≠ q := by
  rintro rfl
  obtain ⟨cs, st, h1, h2, _⟩ := h
  obtain ⟨cs', st', h3, _⟩ := h'
  rw [h2] at h3
  injection h3 with h3
  injection h3 with h3
  cases cs with
  | nil => cases h3
  | cons c r => rw [List.map_cons] at h3; injection h3 with h3 _; cases h3
theorem draw_imp {K : PySem.W.Frag} {w : World} {mg : Str → Option Value} {vs : List V} {H : Hp} {Q : VK} {E : XK} (h : spV (gxOf K w mg) W_draw vs H Q E) : sp_draw vs H Q E := by
  obtain ⟨T, ds, P, rfl, ok, ra, ⟨many, rfl, m0, m1, hP⟩, q⟩ := h
  match vs, ra with
  | [v, u], .cons r1 (.cons r2 .nil) =>
    cases r2
    cases r1 with
    | hnd h =>
      rename_i a
      obtain ⟨p, hp⟩ := h
      refine ⟨a, p, many, rfl, hp.same ok.sd, m0, m1, fun r H' h0 h1 fr hh => ?_⟩
      have ha : ∃ o, T.Hd a = some o := ⟨_, hp.choose_spec.choose_spec.1⟩
      have hb : ∃ o, T.Hd p = some o := ⟨_, hp.choose_spec.choose_spec.2.1⟩
      have nof : ∀ {A : Hp} {b x}, (∀ {b x}, A b = some x → T.Hd b = none) → A b = some x → b ≠ a ∧ b ≠ p := fun {A b x} hA e => by
        refine ⟨fun z => ?_, fun z => ?_⟩
        · obtain ⟨o, e'⟩ := ha; rw [z] at e; rw [hA e] at e'; cases e'
        · obtain ⟨o, e'⟩ := hb; rw [z] at e; rw [hA e] at e'; cases e'
      have nF := fun {b x} (e : T.F b = some x) => nof (A := T.F) (fun e => ok.Fd e) e
      have n0 := fun {b x} (e : T.H0 b = some x) => nof (A := T.H0) (fun e => ok.zd e) e
      let Hn : Hp := fun b => if b = a ∨ b = p then H' b else T.Hd b
      have ny : ∀ {b}, b = a ∨ b = p → Hn b = H' b := fun h => if_pos h
      have nn : ∀ {b}, ¬ (b = a ∨ b = p) → Hn b = T.Hd b := fun h => if_neg h
      refine q (.int r) ⟨T.F, T.H0, Hn, H', T.P⟩ (.int r) ⟨fun b x e => fr b x (nF e).1 (nF e).2 (ok.sF _ _ e), fun b x e => fr b x (n0 e).1 (n0 e).2 (ok.s0 _ _ e), fun b x e => ?_, ok.F0, fun {b x} e => ?_, fun {b x} e => ?_⟩ ⟨rfl, rfl, Same.refl _, fun c hc => ?_⟩ (.int r) (hP r h0 h1)
      · dsimp only at e
        by_cases hz : b = a ∨ b = p
        · rw [ny hz] at e; exact e
        · rw [nn hz] at e
          rw [not_or] at hz
          exact fr b x hz.1 hz.2 (ok.sd _ _ e)
      · have z := nF e
        show Hn b = none
        rw [nn (by rw [not_or]; exact z)]; exact ok.Fd e
      · have z := n0 e
        show Hn b = none
        rw [nn (by rw [not_or]; exact z)]; exact ok.zd e
      · obtain ⟨q', cs, st, h1, h2, h3⟩ := hc
        by_cases hca : c = a
        · subst hca
          obtain ⟨cs', st', k1, k2, k3⟩ := hh
          exact ⟨p, cs', st', by dsimp only; rw [ny (.inl rfl)]; exact k1, by dsimp only; rw [ny (.inr rfl)]; exact k2, k3⟩
        · have hcp : c ≠ p := heap_nr hp ⟨cs, st, h1, h2, h3⟩
          have e1 : Hn c = T.Hd c := nn (by rw [not_or]; exact ⟨hca, hcp⟩)
          by_cases hq : q' = p
          · subst hq
            obtain ⟨cs', st', k1, k2, k3, k4, k5⟩ := hh
            exact ⟨q', cs', st, by dsimp only; rw [e1]; exact h1, by dsimp only; rw [ny (.inr rfl)]; exact k2, k3, k4, h3.2.2⟩
          · have hqa : q' ≠ a := fun z => heap_nr (a := a) (q' := p) ⟨cs, st, h1, h2, h3⟩ hp z.symm
            exact ⟨q', cs, st, by dsimp only; rw [e1]; exact h1, by dsimp only; rw [nn (by rw [not_or]; exact ⟨hqa, hq⟩)]; exact h2, h3⟩
theorem heap_imp {K : PySem.W.Frag} {w : World} {mg : Str → Option Value} {vs : List V} {H : Hp} {Q : VK} {E : XK} (h : spV (gxOf K w mg) W_heap vs H Q E) : sp_heap K vs H Q E := by
  obtain ⟨T, ds, P, rfl, ok, ra, ⟨ns, rfl, hl, hP⟩, q⟩ := h
  match vs, ra with
  | [v], .cons r1 .nil =>
    cases r1 with
    | scr hs =>
      rename_i a
      refine ⟨a, ns, rfl, ok.s0.seq hs, hl, fun p r H' np nr sm hh => ?_⟩
      let Hn : Hp := fun b => if b = p ∨ b = r then H' b else T.Hd b
      have ny : ∀ {b}, b = p ∨ b = r → Hn b = H' b := fun h => if_pos h
      have nn : ∀ {b}, ¬ (b = p ∨ b = r) → Hn b = T.Hd b := fun h => if_neg h
      have nw : ∀ {b x}, T.H b = some x → ¬ (b = p ∨ b = r) := fun {b x} e z => by
        rcases z with rfl | rfl
        · rw [np] at e; cases e
        · rw [nr] at e; cases e
      refine q (.ref p) ⟨T.F, T.H0, Hn, H', T.P⟩ .hnd ⟨fun b x e => sm _ _ (ok.sF _ _ e), fun b x e => sm _ _ (ok.s0 _ _ e), fun b x e => ?_, ok.F0, fun {b x} e => ?_, fun {b x} e => ?_⟩ ⟨rfl, rfl, Same.refl _, fun c hc => ?_⟩ (.hnd ⟨r, ?_⟩) hP
      · dsimp only at e
        by_cases hz : b = p ∨ b = r
        · rw [ny hz] at e; exact e
        · rw [nn hz] at e; exact sm _ _ (ok.sd _ _ e)
      · show Hn b = none
        rw [nn (nw (ok.sF _ _ e))]; exact ok.Fd e
      · show Hn b = none
        rw [nn (nw (ok.s0 _ _ e))]; exact ok.zd e
      · obtain ⟨q', cs, st, h1, h2, h3⟩ := hc
        exact ⟨q', cs, st, by dsimp only; rw [nn (nw (ok.sd _ _ h1))]; exact h1, by dsimp only; rw [nn (nw (ok.sd _ _ h2))]; exact h2, h3⟩
      · obtain ⟨cs, st, h1, h2, h3⟩ := hh
        exact ⟨cs, st, by dsimp only; rw [ny (.inl rfl)]; exact h1, by dsimp only; rw [ny (.inr rfl)]; exact h2, h3⟩
/-- the law's own promise -/
def sp_law (K : PySem.W.Frag) : Sp := fun vs H Q _ => ∃ (a : Addr) (ns : List Int), vs = [.ref a] ∧ SqL K H a (ns.map V.int) ∧ ns.length ≤ 63 ∧ ∀ H', Q (.bl true) H'
theorem law_imp {K : PySem.W.Frag} {w : World} {mg : Str → Option Value} {W : WF1} (hW : ∀ ns : List Int, ns.length ≤ 63 → W [.scr ns] fun d => d = .bl true) {vs : List V} {H : Hp} {Q : VK} {E : XK} (h : sp_law K vs H Q E) : spV (gxOf K w mg) W vs H Q E := by
  obtain ⟨a, ns, rfl, hs, hl, q⟩ := h
  refine ⟨⟨fun _ => none, H, fun _ => none, H, fun _ => False⟩, [.scr ns], _, rfl, ⟨(by intro b x e; cases e), Same.refl _, (by intro b x e; cases e), (by intro b x e; cases e), (by intro b x e; cases e), fun _ => rfl⟩, .cons (.scr hs) .nil, hW ns hl, ?_⟩
  rintro v T' d ok e r rfl
  cases r
  exact q _
/-! ### def f(a, *others) -/
@[simp] def starW (n : Nat) (W : WF1) : WF1 := fun ds Q => (n ≤ ds.length ∧ ds.length ≤ sizeLine) ∧ W (ds.take n ++ [.tup (ds.drop n)]) Q
theorem star_imp {Γ : Gx} {W : WF1} {n : Nat} {vs : List V} {H : Hp} {Q : VK} {E : XK} (h : spV Γ (starW n W) vs H Q E) : ∃ ws rest, vs = ws ++ rest ∧ ws.length = n ∧ rest.length ≤ sizeLine ∧ ∀ p, H p = Option.none → spV Γ W (ws ++ [V.ref p]) (upd H p (.tup rest)) Q E := by
  obtain ⟨T, ds, P, rfl, ok, ra, ⟨⟨h1, h2⟩, hW⟩, q⟩ := h
  refine ⟨vs.take n, vs.drop n, (List.take_append_drop n vs).symm, by rw [List.length_take, ra.len]; omega, by rw [List.length_drop, ra.len]; omega, fun p np => ?_⟩
  have g := Gr.new (o := .tup (vs.drop n)) ok np
  refine ⟨_, ds.take n ++ [.tup (ds.drop n)], P, rfl, g.ok, ?_, hW, fun v T' d ok' e' r' hP => q v T' d ok' (g.ext.trans e') r' hP⟩
  exact ((ra.take n).ext g.ext (T := T)).app (.cons (r_tup ok np (ra.drop n)) .nil)
section
variable {Γ : Gx} {X : Cx} {CX : CXT} {k : Nat} {f : Addr} {W : WF1} {E : XK} {x : Str} {p pos : Pos} {e : Expr} {es : List Expr} {t : TA} {w : WA}
theorem se_callR (ha : SA Γ t w) : SE Γ (fun σ H Q => t σ H fun vs H1 => spV Γ W vs H1 Q E) (wCall W [] w) := ⟨fun {T σ ρ Q Q'} S hw q => ha.h S hw fun vs T1 as ρ1 S1 e1 r1 q1 => by
  have z := S1.call (dv := []) (E := E) r1 (fun _ _ => .nil) q1 fun v T2 d S2 e2 r2 q2 => q v T2 d ρ1 S2 (e1.trans e2) r2 q2
  rwa [List.append_nil] at z⟩
end
end Vl

namespace Vl
open PySem PySem.Spec PyProof.Rows L2 Hl

section
variable {Γ : Gx} {X : Cx} {T : Wo} {σ : L2.St} {ρ : Vn}
/-! ### the operators by their names -/
abbrev gSub : G2 := gI fun i j => i - j
abbrev gMod : G2 := gIc (fun _ j => 0 < j) fun i j => i % j
abbrev gDiv : G2 := gIc CDivW fun i j => i / j
abbrev gPow : G2 := gIc CPow fun i j => i ^ j.toNat
abbrev gLt : G2 := gB fun i j => decide (i < j)
abbrev gLe : G2 := gB fun i j => decide (i ≤ j)
abbrev gGt : G2 := gB fun i j => decide (j < i)
abbrev gGe : G2 := gB fun i j => decide (j ≤ i)
theorem os_sub : OS Γ (rI0 fun i j => .int (i - j)) gSub := os_I
theorem os_mod : OS Γ (rI (fun _ j => 0 < j) fun i j => .int (i % j)) gMod := os_Ic
theorem os_div : OS Γ (rI CDivW fun i j => .int (i / j)) gDiv := os_Ic
theorem os_pow : OS Γ (rI CPow fun i j => .int (i ^ j.toNat)) gPow := os_Ic
theorem os_lt : OS Γ (rI0 fun i j => .bl (decide (i < j))) gLt := os_B
theorem os_le : OS Γ (rI0 fun i j => .bl (decide (i ≤ j))) gLe := os_B
theorem os_gt : OS Γ (rI0 fun i j => .bl (decide (j < i))) gGt := os_B
theorem os_ge : OS Γ (rI0 fun i j => .bl (decide (j ≤ i))) gGe := os_B
@[simp] def gNotB : G2
  | .bl a, .bl b, k => k (.bl (!decide (a = b)))
  | _, _, _ => False
theorem os_notB : OS Γ rNotB gNotB := ⟨fun {T x y a b Q Q'} ok rx ry h q => by
  cases a <;> cases b <;> first | exact h.elim | skip
  exact ⟨_, _, rx.bl, ry.bl, gr_sc ok q (.bl _) h⟩⟩
/-! ### and, or -/
section
variable {a b e : Expr} {rest : List Expr} {ta tb : TE} {wa wb : WE} {t u : TT} {w z : WT} {op : BoolOp} {pos : Pos}
theorem ve_one (h : VE Γ X a ta wa) : VE Γ X (.BoolOp op [a] pos) ta wa := ⟨pe_one h.pe, h.se⟩
theorem ve_and (ha : VE Γ X a ta wa) (hb : VE Γ X (.BoolOp .And (b :: rest) pos) tb wb) : VE Γ X (.BoolOp .And (a :: b :: rest) pos) (tAndV ta tb) (wAndV wa wb) := ⟨pe_and ha.pe hb.pe, se_andV ha.se hb.se⟩
theorem ve_or (ha : VE Γ X a ta wa) (hb : VE Γ X (.BoolOp .Or (b :: rest) pos) tb wb) : VE Γ X (.BoolOp .Or (a :: b :: rest) pos) (tOrV ta tb) (wOrV wa wb) := ⟨pe_or ha.pe hb.pe, se_orV ha.se hb.se⟩
theorem vw_and1 (h : VT Γ X a t w) : VW Γ X (.BoolOp .And [a] pos) t w := ⟨pw_and1 h.pe, h.se⟩
theorem vw_or1 (h : VT Γ X a t w) : VW Γ X (.BoolOp .Or [a] pos) t w := ⟨pw_or1 h.pe, h.se⟩
theorem vw_and (h : VT Γ X a t w) (h' : VW Γ X (.BoolOp .And (b :: rest) pos) u z) : VW Γ X (.BoolOp .And (a :: b :: rest) pos) (tAnd t u) (wAnd w z) := ⟨pw_and h.pe h'.pe, st_and h.se h'.se⟩
theorem vw_or (h : VT Γ X a t w) (h' : VW Γ X (.BoolOp .Or (b :: rest) pos) u z) : VW Γ X (.BoolOp .Or (a :: b :: rest) pos) (tOr t u) (wOr w z) := ⟨pw_or h.pe h'.pe, st_or h.se h'.se⟩
end
/-! ### statements with names -/
section
variable {e : Expr} {te : TE} {we : WE} {pos tpos : Pos} {i j : Nat} {x y : Str}
theorem vs_aug {f : Int → Int → Int} {op : Operator} (hip : PIp X op (ipI f)) (hN : X.N.Nodup) (hi : X.N[i]? = some x) (hx : Loc X.env.scope x) (h : VE Γ X e te we) (hp : PS X (.AugAssign (.Name x tpos) op e pos) (tAug i te (ipI f))) : VS Γ X (.AugAssign (.Name x tpos) op e pos) (tAug i te (ipI f)) (wAug i f we) := ⟨hp, ss_aug h.se⟩
variable {a b : Expr} {ta : TA} {wa : WA} {px py pt : Pos} {kt k2 : Nat} {pt2 : Pos}
theorem vs_mk {st : Stmt} {t : TS} {w : WS} (h : PS X st t) (h' : SS Γ t w) : VS Γ X st t w := ⟨h, h'⟩
end
/-! ### a def with *others, called plainly -/
section
variable {CX : CXT} {k : Nat} {f : Addr} {W : WF1} {E : XK} {x : Str} {p pos : Pos} {e : Expr} {es : List Expr} {t : TA} {w : WA}
theorem pe_callRp {sp : Sp} (F : FnR X.prog X.w X.K X.mg X.base CX k f sp) (hr : Room k X.A) (hg : Gl X x) (hm : X.mg x = some (.ref f)) (hk : PySem.W.keepIn X.K (.ref f) = true) (hx : Passes CX X E)
    (ha : PA X (e :: es) t) (hdb : (x == ("__debug__" : Str)) = false := by decide) (he : starEach (e :: es) X.env = (false, eval e X.env) :: starEach es X.env := by rfl) (hpl : (backTo pos (starEach es X.env)).any (·.1) = false := by rfl) :
    PE X (.Call (.Name x p) (e :: es) [] pos) (fun σ H Q => t σ H fun vs H1 => sp vs H1 Q E) := by
  refine ⟨fun pins s σ H Q I h => ?_⟩
  refine wpAny_Call_Name_kw (ld_glob I hg hm ?_ hdb)
  refine PySem.W.callWith_K (h₀ := X.base) I.ok.mod.kin hk (thn (ha.run pos pins s σ H _ I h) fun us s1 ⟨vs, H1, I1, r, q⟩ => ⟨I1.kIn, ?_⟩) he hpl
  exact wpAny_call (run_fnR F hr hx I1 r q)
theorem ve_callR (F : FnR X.prog X.w X.K X.mg X.base CX k f (spV Γ W)) (hr : Room k X.A) (hg : Gl X x) (hm : X.mg x = some (.ref f)) (hk : PySem.W.keepIn X.K (.ref f) = true) (hx : Passes CX X E)
    (ha : VA Γ X (e :: es) t w) (hdb : (x == ("__debug__" : Str)) = false := by decide) (he : starEach (e :: es) X.env = (false, eval e X.env) :: starEach es X.env := by rfl) (hpl : (backTo pos (starEach es X.env)).any (·.1) = false := by rfl) :
    VE Γ X (.Call (.Name x p) (e :: es) [] pos) (fun σ H Q => t σ H fun vs H1 => spV Γ W vs H1 Q E) (wCall W [] w) := ⟨pe_callRp F hr hg hm hk hx ha.pe hdb he hpl, se_callR ha.se⟩
end
/-! ### zip -/
def zipD : List D → List D → List D
  | a :: l, b :: m => .tup [a, b] :: zipD l m
  | _, _ => []
theorem zipD_at : ∀ {l m : List D} {i : Nat} {d : D}, (zipD l m)[i]? = some d → ∃ a b, d = .tup [a, b] ∧ l[i]? = some a ∧ m[i]? = some b
  | a :: l, b :: m, 0, d, h => by simp [zipD] at h; exact ⟨a, b, h.symm, rfl, rfl⟩
  | a :: l, b :: m, i + 1, d, h => by simp [zipD] at h; simpa using zipD_at h
  | [], _, _, _, h => by simp [zipD] at h
  | _ :: _, [], _, _, h => by simp [zipD] at h
theorem zipD_length : ∀ {l m : List D}, (zipD l m).length = min l.length m.length
  | a :: l, b :: m => by simp only [zipD, List.length_cons, zipD_length (l := l) (m := m)]; omega
  | [], m => by simp [zipD]
  | _ :: _, [] => by simp [zipD]
theorem kpi_zipA {e e2 : Expr} {ta : TA} {K : PySem.W.Frag} {p pos tpos : Pos} {elts : List Expr} {kk : Nat} (hK : X.K = K) (hg : Gl X "zip") (hm : X.mg "zip" = none) (ha : PA X [e, e2] ta)
    (hs : starEach [e, e2] X.env = (false, eval e X.env) :: starEach [e2] X.env := by rfl) (hs2 : (backTo pos (starEach [e2] X.env)).any (·.1) = false := by rfl) : PI X (.Tuple elts kk tpos) (.Call (.Name "zip" p) [e, e2] [] pos) (RZ.iZipA K ta) := by subst hK; exact RZ.pi_zipA hg hm ha hs hs2
@[simp] def wZip (w : WA) : WI := fun ρ Q => w ρ fun as ρ1 => match as with
  | [a, b] => rsW ρ1 a fun d => rsW ρ1 b fun d' => match d, d' with
    | .lst l, .lst m => Q (zipD l m) ρ1
    | .tup l, .tup m => Q (zipD l m) ρ1
    | _, _ => False
  | _ => False
theorem its_zip {vs us : List V} {ds es : List D} {J : It} (r : RA Γ T.H0 T.Hd vs ds) (r' : RA Γ T.H0 T.Hd us es) (hg : ∀ T', Lat Γ T T' → ∀ i x y, vs[i]? = some x → us[i]? = some y → J.go i T'.H) (hst : ∀ T', Lat Γ T T' → ∀ i, vs.length ≤ i ∨ us.length ≤ i → J.stop i T'.H)
    (hy : ∀ T', Lat Γ T T' → ∀ i x H', J.yld i T'.H x H' → ∃ t y z, x = .ref t ∧ T'.H t = none ∧ H' = upd T'.H t (.tup [y, z]) ∧ vs[i]? = some y ∧ us[i]? = some z) : Its Γ T J (zipD ds es) := by
  refine ⟨fun T' l i hi => ?_, fun T' l => hst T' l _ ?_, fun T' l i d x H' hd hyl => ?_⟩
  · rw [zipD_length] at hi
    obtain ⟨x, hx⟩ := lt_at (i := i) r (by omega)
    obtain ⟨y, hy⟩ := lt_at (i := i) r' (by omega)
    exact hg T' l i x y hx hy
  · rw [zipD_length, r.len, r'.len]; omega
  · obtain ⟨t, y, z, rfl, n, rfl, h1, h2⟩ := hy T' l i x H' hyl
    obtain ⟨a, b, rfl, ha, hb⟩ := zipD_at hd
    obtain ⟨a', ha', ra⟩ := (l.ext r).get' h1
    obtain ⟨b', hb', rb⟩ := (l.ext r').get' h2
    rw [ha] at ha'; cases ha'
    rw [hb] at hb'; cases hb'
    exact ⟨_, Gr.new (o := .tup [y, z]) l.ok n, rfl, r_tup l.ok n (.cons ra (.cons rb .nil))⟩
theorem std_lst {v : V} {l : List D} (h : Std Γ T v (.lst l)) : ∃ p vs, v = .ref p ∧ (∀ T', Lat Γ T T' → SqL Γ.K T'.H p vs) ∧ RA Γ T.H0 T.Hd vs l := by
  cases h with
  | sh r =>
    cases r with
    | lst hp ra => exact ⟨_, _, rfl, fun T' l => SqL.of (l.ok.s0 _ _ (l.s0 _ _ hp)), ra⟩
  | pi hp ra => exact ⟨_, _, rfl, fun T' l => SqL.of (l.ok.sF _ _ (l.f _ _ hp)), ra⟩
theorem std_tup {v : V} {l : List D} (h : Std Γ T v (.tup l)) : ∃ p vs, v = .ref p ∧ (∀ T', Lat Γ T T' → SqT Γ.K T'.H p vs) ∧ RA Γ T.H0 T.Hd vs l := by
  cases h with
  | sh r =>
    cases r with
    | tup hp ra => exact ⟨_, _, rfl, fun T' l => seqT l.ok.s0 (seqT l.s0 hp), ra⟩
theorem Lat.refl (S : T.Ok) : Lat Γ T T := ⟨S, Same.refl _, Same.refl _, fun _ h => h⟩
theorem si_zip {t : TA} {w : WA} (h : SA Γ t w) : SI Γ (RZ.iZipA Γ.K t) (wZip w) := ⟨fun {T σ ρ Q Q'} S hw q => h.h S hw fun vs T1 as ρ1 S1 e1 r1 q1 => by
  match as, r1, q1 with
  | [a, b], .cons ra (.cons rb .nil), q1 =>
    obtain ⟨d, rd, q1⟩ := S1.rsW ra q1
    obtain ⟨d', rd', q1⟩ := S1.rsW rb q1
    cases d <;> cases d' <;> first | exact q1.elim | skip
    · obtain ⟨p, xs, rfl, hp, rp⟩ := std_tup rd
      obtain ⟨p', ys, rfl, hp', rp'⟩ := std_tup rd'
      have l0 := Lat.refl (Γ := Γ) S1.ok
      refine ⟨p, p', xs, ys, rfl, .inr ⟨hp _ l0, hp' _ l0, q _ T1 _ ρ1 S1 e1 (its_zip rp rp' ?_ ?_ ?_) q1⟩⟩
      · exact fun T' l i x y hx hy => ⟨_, _, x, y, hp T' l, hp' T' l, hx, hy⟩
      · exact fun T' l i h => ⟨_, _, hp T' l, hp' T' l, h⟩
      · rintro T' l i x H' ⟨t, y, z, rfl, n, rfl, h1, h2⟩
        exact ⟨t, y, z, rfl, n, rfl, h1 _ (hp T' l), h2 _ (hp' T' l)⟩
    · obtain ⟨p, xs, rfl, hp, rp⟩ := std_lst rd
      obtain ⟨p', ys, rfl, hp', rp'⟩ := std_lst rd'
      have l0 := Lat.refl (Γ := Γ) S1.ok
      refine ⟨p, p', xs, ys, rfl, .inl ⟨hp _ l0, hp' _ l0, q _ T1 _ ρ1 S1 e1 (its_zip rp rp' ?_ ?_ ?_) q1⟩⟩
      · exact fun T' l i x y hx hy => ⟨_, _, x, y, hp T' l, hp' T' l, hx, hy⟩
      · exact fun T' l i h => ⟨_, _, hp T' l, hp' T' l, h⟩
      · rintro T' l i x H' ⟨t, y, z, rfl, n, rfl, h1, h2⟩
        exact ⟨t, y, z, rfl, n, rfl, h1 _ (hp T' l), h2 _ (hp' T' l)⟩⟩
theorem vi_zip {e e2 : Expr} {ta : TA} {wa : WA} {p pos tpos : Pos} {elts : List Expr} {kk : Nat} (hK : X.K = Γ.K) (hg : Gl X "zip") (hm : X.mg "zip" = none) (ha : VA Γ X [e, e2] ta wa)
    (hs : starEach [e, e2] X.env = (false, eval e X.env) :: starEach [e2] X.env := by rfl) (hs2 : (backTo pos (starEach [e2] X.env)).any (·.1) = false := by rfl) : VI Γ X (.Tuple elts kk tpos) (.Call (.Name "zip" p) [e, e2] [] pos) (RZ.iZipA Γ.K ta) (wZip wa) := ⟨kpi_zipA hK hg hm ha.pe hs hs2, si_zip ha.se⟩
end
end Vl

namespace Vl
open PySem PySem.Spec PyProof.Rows L2 Hl

section
variable {Γ : Gx} {X : Cx} {T : Wo} {σ : L2.St} {ρ : Vn}
/-! ### a, b = .. : values, new lists, new dicts -/
inductive QI where
  | qv (d : D)
  | ql (l : List D)
  | qd
/-- an object that nobody else has -/
structure Pv (T : Wo) (σ : L2.St) (ρ : Vn) (p : Addr) : Prop where
  f : T.F p = none
  z : T.H0 p = none
  d : T.Hd p = none
  n : ∀ (j : Nat) (c : Cell), ρ[j]? = some c → c.priv = true → σ[j]? ≠ some (some (.ref p))
def QR (Γ : Gx) (T : Wo) (σ : L2.St) (ρ : Vn) (x : V) : QI → Prop
  | .qv d => R Γ T.H0 T.Hd x d
  | .ql l => ∃ p us, x = .ref p ∧ T.H p = some (.lst us) ∧ RA Γ T.H0 T.Hd us l ∧ Pv T σ ρ p
  | .qd => ∃ p, x = .ref p ∧ T.H p = some (.dK []) ∧ Pv T σ ρ p
def QI.fr : QI → Bool
  | .qv _ => false
  | _ => true
@[simp] def QI.cell : QI → Cell
  | .qv d => .val d
  | .ql l => .own l
  | .qd => .dic []
inductive QRs (Γ : Gx) (T : Wo) (σ : L2.St) (ρ : Vn) : List V → List QI → Prop
  | nil : QRs Γ T σ ρ [] []
  | cons {x : V} {q : QI} {xs : List V} {qs : List QI} : QR Γ T σ ρ x q → QRs Γ T σ ρ xs qs → (q.fr = true → ∀ (i : Nat) (q' : QI), qs[i]? = some q' → q'.fr = true → xs[i]? ≠ some x) → QRs Γ T σ ρ (x :: xs) (q :: qs)
abbrev WQ := Vn → (QI → Vn → Prop) → Prop
abbrev WQs := Vn → (List QI → Vn → Prop) → Prop
structure SQ (Γ : Gx) (t : TE) (w : WQ) : Prop where
  h : ∀ {T : Wo} {σ : L2.St} {ρ : Vn} {Q : QI → Vn → Prop} {Q' : VK}, Sv Γ T σ ρ → w ρ Q → (∀ v T' q ρ', Sv Γ T' σ ρ' → Ext Γ T T' → QR Γ T' σ ρ' v q → Q q ρ' → Q' v T'.H) → t σ T.H Q'
structure SQs (Γ : Gx) (t : TA) (w : WQs) : Prop where
  h : ∀ {T : Wo} {σ : L2.St} {ρ : Vn} {Q : List QI → Vn → Prop} {Q' : List V → Hp → Prop}, Sv Γ T σ ρ → w ρ Q → (∀ vs T' qs ρ', Sv Γ T' σ ρ' → Ext Γ T T' → QRs Γ T' σ ρ' vs qs → Q qs ρ' → Q' vs T'.H) → t σ T.H Q'
structure VQ (Γ : Gx) (X : Cx) (e : Expr) (t : TE) (w : WQ) : Prop where
  pe : PE X e t
  se : SQ Γ t w
structure VQs (Γ : Gx) (X : Cx) (es : List Expr) (t : TA) (w : WQs) : Prop where
  pe : PA X es t
  se : SQs Γ t w
@[simp] def wQv (w : WE) : WQ := fun ρ Q => w ρ fun d ρ1 => Q (.qv d) ρ1
@[simp] def wQf (w : WF) : WQ := fun ρ Q => w ρ fun l ρ1 => Q (.ql l) ρ1
@[simp] def wQd : WQ := fun ρ Q => Q .qd ρ
@[simp] def wQn : WQs := fun ρ Q => Q [] ρ
@[simp] def wQc (w : WQ) (u : WQs) : WQs := fun ρ Q => w ρ fun q ρ1 => u ρ1 fun qs ρ2 => Q (q :: qs) ρ2
variable {e : Expr} {es : List Expr} {te : TE} {ta : TA} {pos : Pos}
theorem vq_v {w : WE} (h : VE Γ X e te w) : VQ Γ X e te (wQv w) := ⟨h.pe, ⟨fun S hw q => h.se.h S hw fun v T' d ρ' S' e' r' z => q v T' (.qv d) ρ' S' e' r' z⟩⟩
theorem vq_f {w : WF} (h : VF Γ X e te w) : VQ Γ X e te (wQf w) := ⟨h.pe, ⟨fun S hw q => h.se.h S hw fun p us T' l ρ' S' e' hp nF n0 nd hn r' z => q (.ref p) T' (.ql l) ρ' S' e' ⟨p, us, rfl, hp, r', nF, n0, nd, hn⟩ z⟩⟩
theorem vq_dic : VQ Γ X (.Dict [] [] pos) tDNewK wQd := ⟨pe_dnewK, ⟨fun {T σ ρ Q Q'} S hw q => by
  intro p n
  have g := Gr.priv (o := .dK []) S.ok n
  exact q (.ref p) ⟨T.F, T.H0, T.Hd, upd T.H p (.dK []), T.P⟩ QI.qd ρ (S.grow g) g.ext ⟨p, rfl, upd_same, none_of_le S.ok.sF n, none_of_le S.ok.s0 n, none_of_le S.ok.sd n, fresh_priv S n⟩ hw⟩⟩
theorem vqs_nil : VQs Γ X [] tNil wQn := ⟨pa_nil, ⟨fun {T σ ρ Q Q'} S h q => q [] T [] ρ S .refl .nil h⟩⟩
theorem sqs_fresh {w : WQs} {T1 : Wo} {ρ1 : Vn} {p : Addr} {o : HO} {Q : List QI → Vn → Prop} {Q' : List V → Hp → Prop} (h' : SQs Γ ta w) (S1 : Sv Γ T1 σ ρ1) (hp : T1.H p = some o) (pv : Pv T1 σ ρ1 p) (hw : w ρ1 Q)
    (q : ∀ vs T2 qs ρ2, Sv Γ T2 σ ρ2 → Ext Γ T1 T2 → QRs Γ T2 σ ρ2 vs qs → T2.H p = some o → Pv T2 σ ρ2 p → (∀ (i : Nat) (q' : QI), qs[i]? = some q' → q'.fr = true → vs[i]? ≠ some (.ref p)) → Q qs ρ2 → Q' vs T2.H) : ta σ T1.H Q' := by
  refine h'.h (T := ⟨upd T1.F p o, T1.H0, T1.Hd, T1.H, fun q => T1.P q ∧ q ≠ p⟩) (S1.reF hp pv.f pv.z pv.d pv.n) hw fun vs T2 qs ρ2 S2 e2 r2 q2 => ?_
  have fD : T2.F p = some o := by rw [e2.f]; exact upd_same
  obtain ⟨S3, hp3, n0, nd⟩ := S2.unreF (o' := o) e2.f e2.p pv.f
  have z : upd T2.H p o = T2.H := by
    funext b
    by_cases hb : b = p
    · subst hb; rw [upd_same, hp3]
    · rw [upd_ne hb]
  rw [z] at S3
  have hn : ∀ (j : Nat) (c : Cell), ρ2[j]? = some c → c.priv = true → σ[j]? ≠ some (some (.ref p)) := fun j c ec pc z => by
    obtain ⟨s, e1, r⟩ := S2.cell j c ec
    rw [z] at e1
    cases e1
    cases c with
    | own l => obtain ⟨q, vs, e3, _, _, m1, _⟩ := r; cases e3; rw [fD] at m1; cases m1
    | obj q c l => obtain ⟨C, dx, vs, e3, _, _, _, _, _, m1, _⟩ := r; cases e3; rw [fD] at m1; cases m1
    | dic l => obtain ⟨q, vs, e3, _, _, m1, _⟩ := r; cases e3; rw [fD] at m1; cases m1
    | pin q l => obtain ⟨vs, e3, e0, _⟩ := r; cases e3; rw [e2.p] at e0; exact e0.2 rfl
    | _ => cases pc
  have sF : ∀ {b}, T2.F b = none → T1.F b = none := fun {b} h => by
    rw [e2.f] at h
    dsimp only at h
    by_cases hb : b = p
    · subst hb; exact pv.f
    · rwa [upd_ne hb] at h
  have r3 : ∀ {vs qs}, QRs Γ T2 σ ρ2 vs qs → QRs Γ ⟨T1.F, T2.H0, T2.Hd, T2.H, T1.P⟩ σ ρ2 vs qs ∧ ∀ (i : Nat) (q' : QI), qs[i]? = some q' → q'.fr = true → vs[i]? ≠ some (.ref p) := by
    intro vs qs r
    induction r with
    | nil => exact ⟨.nil, fun i q' h => by simp at h⟩
    | cons r t d ih =>
      rename_i x q xs qs
      obtain ⟨ih1, ih2⟩ := ih
      have hx : QR Γ ⟨T1.F, T2.H0, T2.Hd, T2.H, T1.P⟩ σ ρ2 x q ∧ (q.fr = true → x ≠ .ref p) := by
        cases q with
        | qv d => exact ⟨r, fun z => nomatch z⟩
        | ql l =>
          obtain ⟨p', us, rfl, h1, h2, h3⟩ := r
          exact ⟨⟨p', us, rfl, h1, h2, sF h3.f, h3.z, h3.d, h3.n⟩, fun _ z => by cases z; rw [h3.f] at fD; cases fD⟩
        | qd =>
          obtain ⟨p', rfl, h1, h3⟩ := r
          exact ⟨⟨p', rfl, h1, sF h3.f, h3.z, h3.d, h3.n⟩, fun _ z => by cases z; rw [h3.f] at fD; cases fD⟩
      refine ⟨.cons hx.1 ih1 d, fun i q' h1 h2 h3 => ?_⟩
      cases i with
      | zero => simp at h1 h3; subst h1; exact hx.2 h2 h3
      | succ i => simp at h1 h3; exact ih2 i q' h1 h2 h3
  obtain ⟨r4, r5⟩ := r3 r2
  exact q vs ⟨T1.F, T2.H0, T2.Hd, T2.H, T1.P⟩ qs ρ2 S3 ⟨rfl, rfl, e2.s0, e2.da⟩ r4 hp3 ⟨pv.f, n0, nd, hn⟩ r5 q2
theorem vqs_cons {w : WQ} {u : WQs} (h : VQ Γ X e te w) (h' : VQs Γ X es ta u) (hs : starEach (e :: es) X.env = (false, eval e X.env) :: starEach es X.env := by rfl) : VQs Γ X (e :: es) (tCons te ta) (wQc w u) := ⟨pa_cons h.pe h'.pe hs, ⟨fun {T σ ρ Q Q'} S hw q =>
  h.se.h S hw fun v T1 qi ρ1 S1 e1 r1 q1 => by
    cases qi with
    | qv d => exact h'.se.h S1 q1 fun vs T2 qs ρ2 S2 e2 r2 q2 => q (v :: vs) T2 _ ρ2 S2 (e1.trans e2) (.cons (q := .qv d) (R.ext e2 r1) r2 fun z => nomatch z) q2
    | ql l =>
      obtain ⟨p, us, rfl, hp, r, pv⟩ := r1
      exact sqs_fresh h'.se S1 hp pv q1 fun vs T2 qs ρ2 S2 e2 r2 hp2 pv2 hd q2 => q (.ref p :: vs) T2 _ ρ2 S2 (e1.trans e2) (.cons (q := .ql l) ⟨p, us, rfl, hp2, RA.ext e2 r, pv2⟩ r2 fun _ => hd) q2
    | qd =>
      obtain ⟨p, rfl, hp, pv⟩ := r1
      exact sqs_fresh h'.se S1 hp pv q1 fun vs T2 qs ρ2 S2 e2 r2 hp2 pv2 hd q2 => q (.ref p :: vs) T2 _ ρ2 S2 (e1.trans e2) (.cons (q := .qd) ⟨p, rfl, hp2, pv2⟩ r2 fun _ => hd) q2⟩⟩
theorem qr_cell {x : V} {q : QI} (r : QR Γ T σ ρ x q) : CellR Γ T (some x) q.cell := by
  cases q with
  | qv d => exact ⟨x, rfl, r⟩
  | ql l => obtain ⟨p, us, rfl, hp, ra, pv⟩ := r; exact ⟨p, us, rfl, hp, ra, pv.f, pv.z, pv.d⟩
  | qd => obtain ⟨p, rfl, hp, pv⟩ := r; exact ⟨p, [], rfl, hp, .nil, pv.f, pv.z, pv.d⟩
theorem qi_priv {q : QI} : q.cell.priv = q.fr := by cases q <;> rfl
/-- a store of such a value -/
theorem Sv.setQ {x : V} {q : QI} {i : Nat} (S : Sv Γ T σ ρ) (r : QR Γ T σ ρ x q) : Sv Γ T (σ.set i (some x)) (ρ.set i q.cell) := by
  refine S.set (qr_cell r) fun pc j p c' e2 e3 pc' e4 => ?_
  subst e2
  rw [qi_priv] at pc
  cases q with
  | qv d => cases pc
  | ql l => obtain ⟨p', us, e, hp, ra, pv⟩ := r; cases e; exact absurd e4 (pv.n j c' e3 pc')
  | qd => obtain ⟨p', e, hp, pv⟩ := r; cases e; exact absurd e4 (pv.n j c' e3 pc')
theorem qr_set {x y : V} {q q' : QI} {i : Nat} (r : QR Γ T σ ρ x q) (hd : q.fr = true → q'.fr = true → y ≠ x) : QR Γ T (σ.set i (some y)) (ρ.set i q'.cell) x q := by
  have key : ∀ p, x = .ref p → q.fr = true → Pv T σ ρ p → Pv T (σ.set i (some y)) (ρ.set i q'.cell) p := fun p ex hf pv => by
    refine ⟨pv.f, pv.z, pv.d, fun j c e pc z => ?_⟩
    rcases set_at e with ⟨rfl, hl, rfl⟩ | ⟨hj, e⟩
    · rw [qi_priv] at pc
      rcases set_at z with ⟨_, _, z⟩ | ⟨hj, _⟩
      · cases z; exact hd hf pc ex.symm
      · exact hj rfl
    · rw [List.getElem?_set_ne hj] at z
      exact pv.n j c e pc z
  cases q with
  | qv d => exact r
  | ql l => obtain ⟨p, us, rfl, hp, ra, pv⟩ := r; exact ⟨p, us, rfl, hp, ra, key p rfl rfl pv⟩
  | qd => obtain ⟨p, rfl, hp, pv⟩ := r; exact ⟨p, rfl, hp, key p rfl rfl pv⟩
@[simp] def wPar2 (i j : Nat) (w : WQs) : WS := fun D ρ => w ρ fun qs ρ1 => match qs with
  | [a, b] => D.nx ((ρ1.set i a.cell).set j b.cell)
  | _ => False
@[simp] def wPar3 (i j l : Nat) (w : WQs) : WS := fun D ρ => w ρ fun qs ρ1 => match qs with
  | [a, b, c] => D.nx (((ρ1.set i a.cell).set j b.cell).set l c.cell)
  | _ => False
theorem ss_par2 {i j : Nat} {wa : WQs} (h : SQs Γ ta wa) : SS Γ (tPar i j ta) (wPar2 i j wa) := ⟨fun {T σ ρ D D'} S hw a b c d => h.h S hw fun vs T1 qs ρ1 S1 e1 r1 q1 => by
  match qs, q1, r1 with
  | [x, y], q1, .cons rx (.cons ry .nil _) hd =>
    refine ⟨_, _, rfl, a T1 _ _ ((S1.setQ rx).setQ (qr_set ry fun h1 h2 => ?_)) e1 q1⟩
    exact fun z => hd h2 0 y rfl h1 (by rw [z]; rfl)⟩
theorem vs_par2 {i j : Nat} {x y : Str} {a b : Expr} {wa : WQs} {px py pt : Pos} {kt k2 pt2} (hc : X.calm = true) (hN : X.N.Nodup) (hi : X.N[i]? = some x) (hj : X.N[j]? = some y) (hij : i ≠ j)
    (hx : X.env.scope.names.lookup x = some .local) (hy : X.env.scope.names.lookup y = some .local) (ha : VQs Γ X [a, b] ta wa)
    (hw : swappedStores [.Tuple [.Name x px, .Name y py] kt pt] (.Tuple [a, b] k2 pt2) X.env = pure (some [x, y]))
    (hs : swapsWithSole [.Tuple [.Name x px, .Name y py] kt pt] (.Tuple [a, b] k2 pt2) pos.line X.env = pure false := by rfl) : VS Γ X (.Assign [.Tuple [.Name x px, .Name y py] kt pt] (.Tuple [a, b] k2 pt2) pos) (tPar i j ta) (wPar2 i j wa) := ⟨ps_par hc hN hi hj hij hx hy ha.pe hw hs, ss_par2 ha.se⟩
theorem ss_par3 {i j l : Nat} {wa : WQs} (h : SQs Γ ta wa) : SS Γ (tPar3 i j l ta) (wPar3 i j l wa) := ⟨fun {T σ ρ D D'} S hw a b c d => h.h S hw fun vs T1 qs ρ1 S1 e1 r1 q1 => by
  match qs, q1, r1 with
  | [x, y, z], q1, .cons rx (.cons ry (.cons rz .nil _) hd2) hd =>
    have ry2 := qr_set (i := i) ry fun h1 h2 e => hd h2 0 y rfl h1 (congrArg some e.symm)
    have rz2 := qr_set (i := i) rz fun h1 h2 e => hd h2 1 z rfl h1 (congrArg some e.symm)
    have rz3 := qr_set (i := j) rz2 fun h1 h2 e => hd2 h2 0 z rfl h1 (congrArg some e.symm)
    exact ⟨_, _, _, rfl, a T1 _ _ (((S1.setQ rx).setQ ry2).setQ rz3) e1 q1⟩⟩
theorem vs_par3 {i j l : Nat} {x y z : Str} {a b c : Expr} {wa : WQs} {px py pz pt : Pos} {kt k2 pt2} (hc : X.calm = true) (hN : X.N.Nodup) (hi : X.N[i]? = some x) (hj : X.N[j]? = some y) (hl : X.N[l]? = some z) (hij : i ≠ j) (hil : i ≠ l) (hjl : j ≠ l)
    (hx : X.env.scope.names.lookup x = some .local) (hy : X.env.scope.names.lookup y = some .local) (hz : X.env.scope.names.lookup z = some .local) (ha : VQs Γ X [a, b, c] ta wa)
    (hw : swappedStores [.Tuple [.Name x px, .Name y py, .Name z pz] kt pt] (.Tuple [a, b, c] k2 pt2) X.env = pure (some [x, y, z]))
    (hs : swapsWithSole [.Tuple [.Name x px, .Name y py, .Name z pz] kt pt] (.Tuple [a, b, c] k2 pt2) pos.line X.env = pure false := by rfl) :
    VS Γ X (.Assign [.Tuple [.Name x px, .Name y py, .Name z pz] kt pt] (.Tuple [a, b, c] k2 pt2) pos) (tPar3 i j l ta) (wPar3 i j l wa) := ⟨ps_par3 hc hN hi hj hl hij hil hjl hx hy hz ha.pe hw hs, ss_par3 ha.se⟩
/-! ### a def with *others -/
structure DfR (P : Program) (w : World) (K : PySem.W.Frag) (mg : Str → Option Value) (base : Heap) (k : Nat) (nm : Str) (sp : Sp) where
  f : Addr
  ok : FnR P w K mg base CX0 k f sp
  m : mg nm = some (.ref f)
  kp : PySem.W.keepIn K (.ref f) = true
/-! ### sum(lists, []) -/
def lstO : D → Option (List D)
  | .lst l => some l
  | _ => none
def sumLO : List D → Option (List D)
  | [] => some []
  | .lst l :: r => (sumLO r).map (l ++ ·)
  | _ :: _ => none
@[simp] def fSumL : FN
  | [.lst l, .lst []], k => oK (sumLO l) fun m => (0 < l.length ∧ m.length ≤ sizeLine) ∧ k m
  | _, _ => False
def rSumL (K : PySem.W.Frag) : List V → Hp → VK → Prop := fun vs H Q => ∃ (a b : Addr) (xs : List V) (lst : Nat → List V), vs = [V.ref a, V.ref b] ∧ SqL K H a xs ∧ H b = some (.lst []) ∧ 0 < xs.length ∧ (∀ i v, xs[i]? = some v → ∃ c, v = .ref c ∧ H c = some (.lst (lst i))) ∧
  ((List.range xs.length).flatMap lst).length ≤ sizeLine ∧ ∀ p, H p = none → Q (.ref p) (upd H p (.lst ((List.range xs.length).flatMap lst)))
end
end Vl

namespace Vl
open PySem PySem.Spec PyProof.Rows L2 Hl

section
variable {Γ : Gx} {X : Cx} {T : Wo} {σ : L2.St} {ρ : Vn}
/-! ### a, b, c, d = .. : through a tuple -/
def gNm : List Nat → TGs
  | [] => gNil
  | i :: r => gCons (gName i) (gNm r)
@[simp] def setQs : List Nat → List QI → Vn → Vn
  | i :: r, q :: qs, ρ => setQs r qs (ρ.set i q.cell)
  | _, _, ρ => ρ
theorem QRs.len : ∀ {xs : List V} {qs : List QI}, QRs Γ T σ ρ xs qs → xs.length = qs.length
  | _, _, .nil => rfl
  | _, _, .cons _ t _ => by rw [List.length_cons, List.length_cons, t.len]
theorem QRs.set {y : V} {q' : QI} {i : Nat} : ∀ {xs : List V} {qs : List QI}, QRs Γ T σ ρ xs qs → (q'.fr = true → ∀ (j : Nat) (q : QI), qs[j]? = some q → q.fr = true → xs[j]? ≠ some y) → QRs Γ T (σ.set i (some y)) (ρ.set i q'.cell) xs qs
  | _, _, .nil, _ => .nil
  | _, _, .cons (x := x) (q := q) h t d, hd => .cons (qr_set h fun h1 h2 e => hd h2 0 q rfl h1 (congrArg some e.symm)) (t.set fun h j q2 h1 h2 => hd h (j + 1) q2 h1 h2) d
theorem gNm_ok {Q' : L2.St → Hp → Prop} : ∀ {is : List Nat} {xs : List V} {qs : List QI} {σ : L2.St} {ρ : Vn}, Sv Γ T σ ρ → QRs Γ T σ ρ xs qs → qs.length = is.length → (∀ σ', Sv Γ T σ' (setQs is qs ρ) → Q' σ' T.H) → gNm is xs σ T.H Q'
  | [], _, _, _, _, S, .nil, _, q => ⟨rfl, q _ S⟩
  | _ :: _, _, _, _, _, S, .nil, h, q => by simp at h
  | [], _, _, _, _, S, .cons _ _ _, h, q => by simp at h
  | i :: r, _, _, _, _, S, .cons (x := x) (q := qi) h t d, hl, q => ⟨x, _, rfl, gNm_ok (S.setQ h) (t.set d) (by simpa using hl) q⟩
theorem QRs.priv {p : Addr} {o : HO} (n : T.H p = none) : ∀ {xs : List V} {qs : List QI}, QRs Γ T σ ρ xs qs → QRs Γ ⟨T.F, T.H0, T.Hd, upd T.H p o, T.P⟩ σ ρ xs qs
  | _, _, .nil => .nil
  | _, _, .cons (q := q) h t d => .cons (by
      cases q with
      | qv d => exact h
      | ql l => obtain ⟨a, us, e, h1, h2, h3⟩ := h; exact ⟨a, us, e, (by dsimp only; rw [upd_ne (ne_of_none h1 n)]; exact h1), h2, h3.f, h3.z, h3.d, h3.n⟩
      | qd => obtain ⟨a, e, h1, h3⟩ := h; exact ⟨a, e, (by dsimp only; rw [upd_ne (ne_of_none h1 n)]; exact h1), h3.f, h3.z, h3.d, h3.n⟩) (t.priv n) d
@[simp] def wParT (is : List Nat) (w : WQs) : WS := fun D ρ => w ρ fun qs ρ1 => (qs.length = is.length ∧ qs.length ≤ sizeLine) ∧ D.nx (setQs is qs ρ1)
theorem ss_parT {ta : TA} {is : List Nat} {wa : WQs} (h : SQs Γ ta wa) : SS Γ (tAsg (tTup ta) (gTup Γ.K is.length (gNm is))) (wParT is wa) := ⟨fun {T σ ρ D D'} S hw a b c d => h.h S hw fun vs T1 qs ρ1 S1 e1 r1 q1 => by
  refine ⟨by rw [r1.len]; exact q1.1.2, fun p n => ?_⟩
  have g := Gr.priv (o := .tup vs) S1.ok n
  refine ⟨p, vs, rfl, SqT.of upd_same, by rw [r1.len]; exact q1.1.1, ?_⟩
  exact gNm_ok (T := ⟨T1.F, T1.H0, T1.Hd, upd T1.H p (.tup vs), T1.P⟩) (S1.grow g) (r1.priv n) q1.1.1 fun σ' S' => a _ σ' _ S' (e1.trans g.ext) q1.2⟩
theorem vs_parT {ta : TA} {is : List Nat} {wa : WQs} {tg : Expr} {es : List Expr} {x1} {tpos pos : Pos} (ha : VQs Γ X es ta wa) (hg : PG X tg (gTup Γ.K is.length (gNm is)))
    (hs : swapsWithSole [tg] (.Tuple es x1 tpos) pos.line X.env = pure false := by rfl) (hw : swappedStores [tg] (.Tuple es x1 tpos) X.env = pure none := by rfl) (h1 : (assignEach [tg] X.env).map (·.2) = [assign tg X.env] := by rfl) :
    VS Γ X (.Assign [tg] (.Tuple es x1 tpos) pos) (tAsg (tTup ta) (gTup Γ.K is.length (gNm is))) (wParT is wa) := ⟨ps_asg (pe_tup ha.pe) hg hs hw h1, ss_parT ha.se⟩
end
end Vl

namespace Vl
open PySem PySem.Spec PyProof.Rows L2 Hl
theorem vals_app : ∀ {xs ys : List V} {us ws : List Value}, Vals xs us → Vals ys ws → Vals (xs ++ ys) (us ++ ws)
  | _, _, _, _, .nil, h => h
  | _, _, _, _, .cons r t, h => .cons r (vals_app t h)
theorem kcr_sumL {X : Cx} {K : PySem.W.Frag} (h : X.K = K) (hc : X.calm = true) : CallR X (.builtin "sum") (rSumL K) := by
  subst h
  intro pins s σ H vs us Q I r h
  obtain ⟨a, b, xs, lst, rfl, ha, hb, hpos, hl, hz, q⟩ := h
  obtain ⟨u, v, rfl, ru, rv⟩ := r.two
  cases ru
  cases rv
  obtain ⟨its, rI, pl, _⟩ := I.list ha
  obtain ⟨z2, its2, n2, r2, hl2, e2⟩ := I.lstM hb
  cases r2
  have key : ∀ i v, its[i]? = some v → ∃ (c : Addr) (n : Nat) (ws : List Value), v = .ref c ∧ IsL s.heap c ws.toArray n ∧ Vals (lst i) ws := fun i v hv => by
    have hi : i < xs.length := by
      obtain ⟨z, _⟩ := List.getElem?_eq_some_iff.mp hv
      rw [rI.length]; exact z
    obtain ⟨c, e1, e2⟩ := hl i xs[i] (List.getElem?_eq_getElem hi)
    obtain ⟨u, hu, ru⟩ := rI.get (List.getElem?_eq_getElem hi)
    rw [hv] at hu; cases hu
    rw [e1] at ru; cases ru
    obtain ⟨z3, its3, n3, r3, hl3, e3⟩ := I.lstM e2
    exact ⟨c, n3, its3, rfl, e3, r3⟩
  have k2 : ∀ i : Nat, ∃ ws : List Value, ∀ v, its[i]? = some v → ∃ (c : Addr) (n : Nat), v = .ref c ∧ IsL s.heap c ws.toArray n ∧ Vals (lst i) ws := fun i => by
    cases e : its[i]? with
    | none => exact ⟨[], fun v h => nomatch h⟩
    | some w =>
      obtain ⟨c, n, ws, h1, h2, h3⟩ := key i w e
      exact ⟨ws, fun v h => by cases h; exact ⟨c, n, h1, h2, h3⟩⟩
  obtain ⟨lv, hlv⟩ := Classical.axiomOfChoice k2
  have hpre : ∀ n, n ≤ its.length → Vals ((List.range n).flatMap lst) (preL lv n) := fun n => by
    induction n with
    | zero => intro _; exact .nil
    | succ n ih =>
      intro hn
      rw [List.range_succ, List.flatMap_append]
      obtain ⟨c, m, _, _, hv⟩ := hlv n its[n] (List.getElem?_eq_getElem (by omega))
      show Vals _ (preL lv n ++ lv n)
      refine vals_app (ih (by omega)) ?_
      simpa using hv
  have hlen := rI.length
  have hv := hpre its.length (Nat.le_refl _)
  rw [← hlen] at hv
  refine call_sum_lists (I.ok.hd hc) pl.isList e2 lv ?_ (fun i v hv => ?_) fun h' acc na tk hk hI hn => ?_
  · rw [List.size_toArray, ← hlen, ← hv.length]; exact hz
  · have hv' : its[i]? = some v := by simpa using hv
    obtain ⟨c, n, e, h, _⟩ := hlv i v hv'
    exact ⟨c, n, e, h⟩
  · rw [List.size_toArray, ← hlen] at hI hn
    have hge : s.heap.objs.size ≤ acc := Nat.le_of_lt (hn hpos)
    exact ⟨.ref acc, upd H acc (.lst _), I.laid (t' := tk) hk hge ⟨hz, _, na, hv, hI⟩, rfl, q acc (I.hok.fresh hge)⟩
section
variable {Γ : Gx}
theorem sumLO_ok {T : Wo} (ok : T.Ok) : ∀ {l m : List D} {vs : List V}, RA Γ T.H0 T.Hd vs l → sumLO l = some m → ∃ lst : Nat → List V, (∀ (i : Nat) v, vs[i]? = some v → ∃ c, v = .ref c ∧ T.H c = some (.lst (lst i))) ∧ RA Γ T.H0 T.Hd ((List.range vs.length).flatMap lst) m
  | [], m, _, .nil, h => by cases h; exact ⟨fun _ => [], fun i v h => by simp at h, .nil⟩
  | d :: l, m, v :: vs, .cons r t, h => by
    cases d <;> first | cases h | skip
    rename_i x
    unfold sumLO at h
    cases e : sumLO l with
    | none => rw [e] at h; cases h
    | some m' =>
      rw [e] at h
      cases h
      obtain ⟨lst, h1, h2⟩ := sumLO_ok ok t e
      cases r with
      | lst hp ra =>
        rename_i a us
        refine ⟨fun i => match i with | 0 => us | i + 1 => lst i, fun i v hv => ?_, ?_⟩
        · cases i with
          | zero => simp at hv; subst hv; exact ⟨a, rfl, ok.s0 _ _ hp⟩
          | succ i => simp at hv; exact h1 i v hv
        · rw [List.length_cons, List.range_succ_eq_map, List.flatMap_cons, List.flatMap_map]
          exact ra.app h2
theorem csf_sumL : CSF Γ (rSumL Γ.K) fSumL := ⟨fun {T xs as Q Q'} ok r h q => by
  unfold fSumL at h
  split at h
  · obtain ⟨v, u, rfl, r1, r2⟩ := r.two
    obtain ⟨m, e, ⟨h1, h2⟩, h3⟩ := oK_of h
    obtain ⟨a, vs, rfl, ha, ra⟩ := r1.lst ok
    obtain ⟨b, us, rfl, hb, rb⟩ := r2.lst ok
    cases rb
    obtain ⟨lst, h4, h5⟩ := sumLO_ok ok ra e
    exact ⟨a, b, vs, lst, rfl, SqL.of ha, hb, by rw [ra.len]; exact h1, h4, by rw [h5.len]; exact h2, fun p n => q p _ _ n h5 h3⟩
  · exact h.elim⟩
end
end Vl

namespace Vl
open PySem PySem.Spec PyProof.Rows L2 Hl
/-! ### data by shapes -/
abbrev tI (ns : List Int) : D := .tup (ns.map D.int)
abbrev lI (ns : List Int) : D := .lst (ns.map D.int)
@[simp] theorem eqv_int {i j : Int} : D.eqv (.int i) (.int j) = decide (i = j) := by
  show (i == j) = _
  by_cases h : i = j <;> simp [h]
@[simp] theorem flat_ints (ns : List Int) : (ns.map D.int).all D.flat = true := by
  induction ns with
  | nil => rfl
  | cons n ns ih => simpa using ih
@[simp] theorem mem_ints' (i : Int) (ns : List Int) : D.mem (.int i) (ns.map D.int) = decide (i ∈ ns) := by
  unfold D.mem
  induction ns with
  | nil => rfl
  | cons n ns ih =>
    rw [List.map_cons, List.any_cons, ih, eqv_int]
    by_cases h : n = i
    · subst h; simp
    · have h' : ¬ i = n := fun e => h e.symm
      simp [h, h']
@[simp] theorem intsO_ints (ns : List Int) : intsO (ns.map D.int) = some ns := intsO_map ns
@[simp] theorem blsO_bls (ns : List Bool) : blsO (ns.map D.bl) = some ns := blsO_map ns
@[simp] theorem draw_iff {m : Int} {Q : D → Prop} : W_draw [.hnd, .int m] Q ↔ 0 < m ∧ m < 1073741824 ∧ ∀ r : Int, 0 ≤ r → r < m → Q (.int r) := by
  constructor
  · rintro ⟨m', e, h⟩; cases e; exact h
  · intro h; exact ⟨m, rfl, h⟩
@[simp] theorem heap_iff {ns : List Int} {Q : D → Prop} : W_heap [.scr ns] Q ↔ ns.length ≤ 63 ∧ Q .hnd := by
  constructor
  · rintro ⟨m', e, h⟩; cases e; exact h
  · intro h; exact ⟨ns, rfl, h⟩
theorem atI_nat' {α : Type} {xs : List α} {i : Int} {x : α} (h0 : 0 ≤ i) (h : xs[i.toNat]? = some x) : atI xs i = some x := by
  have e : ((i.toNat : Nat) : Int) = i := Int.toNat_of_nonneg h0
  rw [← e]
  exact atI_nat h
/-- a comprehension over data of one shape, its test and its item plain -/
theorem lc_of {α : Type} (enc : α → D) {g : WG} {c : WT} {w : WE} {vs : List Nat} {ρ : Vn} {Q : List D → Vn → Prop} (p : α → Bool) (out : α → D) (ρ1 : α → Vn) : ∀ (l : List α) (acc : List D),
    (∀ a ∈ l, ∀ (A : D → Vn → Prop) (B : Vn → Prop), (p a = true → A (out a) (ρ1 a)) → (p a = false → B (ρ1 a)) → g (enc a) ρ fun ρ1 => c ρ1 fun b ρ2 => (b = true → w ρ2 A) ∧ (b = false → B ρ2)) →
    (∀ a, wipeV (ρ1 a) vs = ρ) → acc.length + l.length ≤ sizeLine → Q (acc ++ (l.filter p).map out) ρ → lcV g c w vs (l.map enc) acc ρ Q
  | [], acc, _, _, _, h => by simpa using h
  | a :: l, acc, hs, hw, hz, h => by
    rw [List.map_cons]
    refine hs a (List.mem_cons_self ..) _ _ (fun hp => ?_) (fun hp => ?_)
    · refine ⟨by rw [List.length_cons] at hz; omega, ?_⟩
      rw [hw]
      refine lc_of enc p out ρ1 l _ (fun b hb => hs b (List.mem_cons_of_mem _ hb)) hw (by rw [List.length_append, List.length_singleton]; rw [List.length_cons] at hz; omega) ?_
      rw [List.filter_cons_of_pos hp, List.map_cons] at h
      simpa using h
    · rw [hw]
      refine lc_of enc p out ρ1 l _ (fun b hb => hs b (List.mem_cons_of_mem _ hb)) hw (by rw [List.length_cons] at hz; omega) ?_
      rwa [List.filter_cons_of_neg (by rw [hp]; exact Bool.false_ne_true)] at h
theorem lc_ofD {g : WG} {c : WT} {w : WE} {vs : List Nat} {ρ : Vn} {Q : List D → Vn → Prop} (p : D → Bool) (out : D → D) (ρ1 : D → Vn) (l : List D) (acc : List D)
    (hs : ∀ a ∈ l, ∀ (A : D → Vn → Prop) (B : Vn → Prop), (p a = true → A (out a) (ρ1 a)) → (p a = false → B (ρ1 a)) → g a ρ fun ρ1 => c ρ1 fun b ρ2 => (b = true → w ρ2 A) ∧ (b = false → B ρ2))
    (hw : ∀ a, wipeV (ρ1 a) vs = ρ) (hz : acc.length + l.length ≤ sizeLine) (h : Q (acc ++ (l.filter p).map out) ρ) : lcV g c w vs l acc ρ Q := by
  have z := lc_of (fun d : D => d) (g := g) (c := c) (w := w) (Q := Q) p out ρ1 l acc hs hw hz h
  rwa [List.map_id'] at z
/-- a class's name stands for one class -/
theorem noat {K : PySem.W.Frag} {mg : Str → Option Value} {c f : Str} {C0 : Addr} (hm : mg c = some (.ref C0)) (hn : NoAttr K C0 f) : ∀ C, mg c = some (.ref C) → NoAttr K C f := fun C h => by
  have e := hm.symm.trans h
  injection e with e
  injection e with e
  rw [← e]; exact hn
section
variable {Γ : Gx} {X : Cx} {T : Wo} {σ : L2.St} {ρ : Vn}
variable {elt tg iter : Expr} {ifs : List Expr} {scope : Scope} {own : List (Str × Nat)} {pos : Pos} {ti : TI} {g : TG} {tt : TT} {te : TE} {ts : List Nat} {wi : WI} {wg : WG} {wc : WT} {we : WE}
/-- a name that takes a comprehension's list, to share -/
theorem vs_setLcV {i : Nat} {y : Str} {py : Pos} {spos : Pos} (hc : X.calm = true) (hN : X.N.Nodup) (hy : X.N[i]? = some y) (hyl : X.env.scope.names.lookup y = some .local)
    (hsw : swapsWith (.ListComp elt [⟨tg, iter, ifs, 0⟩] scope pos) (some (.Name y py)) spos.line X.env = pure true) (hi : VI Γ X tg iter ti wi) (ok : BlkOk X.N X.env.scope scope own)
    (hg : ∀ (s : Shared) (H : Hp) (C : Addr) (cl : List (Str × Addr)) (fp : List Addr), VG Γ (X.blk s H scope (compEnvC scope cl C X.env) fp) tg g ts wg) (ht : ∀ (s : Shared) (H : Hp) (C : Addr) (cl : List (Str × Addr)) (fp : List Addr), VTs Γ (X.blk s H scope (compEnvC scope cl C X.env) fp) ifs tt wc)
    (he : ∀ (s : Shared) (H : Hp) (C : Addr) (cl : List (Str × Addr)) (fp : List Addr), VE Γ (X.blk s H scope (compEnvC scope cl C X.env) fp) elt te we) (hs : ∀ x, foldedSetIterable iter X.env x = pure x := by intro _; rfl) (hts : ∀ j ∈ ts, j ∈ own.map (·.2) := by decide) :
    VS Γ X (.Assign [.Name y py] (.ListComp elt [⟨tg, iter, ifs, 0⟩] scope pos) spos) (tAsg (tLc ti g tt te (own.map (·.2))) (gName i)) (wSet (wFz (wLc wi wg wc we (own.map (·.2)))) (gV i)) :=
  ⟨ps_setLc hc hN hy hyl hsw hi.pe ok (fun s H C cl fp => (hg s H C cl fp).pe) (fun s H C cl fp => (ht s H C cl fp).pe) (fun s H C cl fp => (he s H C cl fp).pe) hs, ss_set (se_fz (sf_lc hi.se (hg ({} : Shared) (fun _ => none) 0 [] []).se (ht ({} : Shared) (fun _ => none) 0 [] []).se (he ({} : Shared) (fun _ => none) 0 [] []).se hts)) sg_name⟩
end
end Vl

namespace Vl
open PySem PySem.Spec PyProof.Rows L2 Hl
/-! ### isinstance: several built-in classes, own classes -/
/-- what isinstance asks of an object's class -/
structure IsiO (K : PySem.W.Frag) (C : Addr) : Prop where
  f1 : PySem.W.findIn K (.ref C) "__class__" = some (some (.builtin "object.__class__"))
  f2 : PySem.W.specialIn K (.builtin "object.__class__") "__get__" = some (some (.builtin "getset_descriptor.__get__"))
  f3 : PySem.W.takesIn K (.builtin "object.__class__") = some true
  f4 : PySem.W.mroIn K C (.type "object") = some true
@[simp] def D.kn (cs : List Str) : D → Bool
  | .obj c _ => decide (c ∈ cs)
  | .hnd => false
  | .scr _ => false
  | .dct _ => false
  | .set _ => false
  | _ => true
@[simp] def D.isCl (c : Str) : D → Bool
  | .obj c' _ => decide (c' = c)
  | _ => false
def bnames : List String := ["NoneType", "bool", "int", "str", "tuple", "list"]
section
variable {Γ : Gx} {T : Wo} {v : V}
theorem RO.obj {c : Str} {fs : List (Str × D)} (ok : T.Ok) (h : RO Γ T v (.obj c fs)) : ∃ a C dx vf, v = .ref a ∧ T.H a = some (.ins C dx vf) ∧ Γ.mg c = some (.ref C) ∧ Cls Γ.K C := by
  cases h with
  | sh h =>
    cases h with
    | obj h m cl na a => exact ⟨_, _, _, _, rfl, ok.s0 _ _ h, m, cl⟩
theorem ro_kn {cs : List Str} {d : D} (hI : ∀ c ∈ cs, ∀ C, Γ.mg c = some (.ref C) → IsiO Γ.K C) (ok : T.Ok) (r : RO Γ T v d) (h : d.kn cs = true) :
    (d.tyN = true ∧ ∃ S, S ∈ bnames ∧ TyN d S ∧ TyX Γ.K T.H v (.type S)) ∨ ∃ c fs C, d = .obj c fs ∧ c ∈ cs ∧ Γ.mg c = some (.ref C) ∧ TyX Γ.K T.H v (.ref C) := by
  cases d with
  | obj c fs =>
    obtain ⟨a, C, dx, vf, rfl, ha, m, cl⟩ := r.obj ok
    have hc : c ∈ cs := of_decide_eq_true h
    have i := hI c hc C m
    exact .inr ⟨c, fs, C, rfl, hc, m, .base (.ins ha cl i.f1 i.f2 i.f3 i.f4)⟩
  | hnd => cases h
  | scr _ => cases h
  | dct _ => cases h
  | set _ => cases h
  | non => obtain ⟨S, h1, h2⟩ := ro_ty ok r rfl; exact .inl ⟨rfl, S, by cases h1; simp [bnames], h1, h2⟩
  | bl b => obtain ⟨S, h1, h2⟩ := ro_ty ok r rfl; exact .inl ⟨rfl, S, by cases h1; simp [bnames], h1, h2⟩
  | int b => obtain ⟨S, h1, h2⟩ := ro_ty ok r rfl; exact .inl ⟨rfl, S, by cases h1; simp [bnames], h1, h2⟩
  | str b => obtain ⟨S, h1, h2⟩ := ro_ty ok r rfl; exact .inl ⟨rfl, S, by cases h1; simp [bnames], h1, h2⟩
  | tup b => obtain ⟨S, h1, h2⟩ := ro_ty ok r rfl; exact .inl ⟨rfl, S, by cases h1; simp [bnames], h1, h2⟩
  | lst b => obtain ⟨S, h1, h2⟩ := ro_ty ok r rfl; exact .inl ⟨rfl, S, by cases h1; simp [bnames], h1, h2⟩
end
/-- isinstance(x, C), C a class of the text; cs: the classes that x may have -/
@[simp] def wIsiO (cs : List Str) (c : Str) (w : WO) : WE := fun ρ Q => w ρ fun a ρ1 => rs1 ρ1 a fun d => d.kn cs = true ∧ Q (.bl (d.isCl c)) ρ1
/-- isinstance(x, (S, T)) -/
@[simp] def wIsiT (cs : List Str) (Us : List Tn) (w : WO) : WE := fun ρ Q => w ρ fun a ρ1 => rs1 ρ1 a fun d => d.kn cs = true ∧ Q (.bl (Us.any fun U => d.isTy U)) ρ1
def tTys : List Tn → TA
  | [] => tNil
  | U :: Us => tCons (tC (.ty U.nm)) (tTys Us)
theorem tTys_run : ∀ {Us : List Tn} {σ : L2.St} {H : Hp} {Q : List V → Hp → Prop}, Q (Us.map fun (U : Tn) => V.ty U.nm) H → tTys Us σ H Q
  | [], _, _, _, h => h
  | U :: Us, σ, H, Q, h => tTys_run (Us := Us) (Q := fun vs H2 => Q (V.ty U.nm :: vs) H2) h
theorem tys_cls : ∀ {Us : List Tn}, Paired ClsV (Us.map fun (U : Tn) => V.ty U.nm) (Us.map fun (U : Tn) => Value.type U.nm)
  | [] => .nil
  | U :: Us => .cons (.ty U.nm) tys_cls
theorem kitAny_of {K : PySem.W.Frag} {t : Value} {f : Tn → Bool} : ∀ {Us : List Tn}, (∀ U ∈ Us, PySem.W.kitOne K t (.type U.nm) = some (f U)) → PySem.W.kitAny K t (Us.map fun (U : Tn) => Value.type U.nm) = some (Us.any f)
  | [], _ => rfl
  | U :: Us, h => by
    have h1 := h U (List.mem_cons_self ..)
    have h2 := kitAny_of (Us := Us) fun U hU => h U (List.mem_cons_of_mem _ hU)
    rw [List.map_cons]
    show (match PySem.W.kitOne K t (.type U.nm) with | some true => some true | some false => PySem.W.kitAny K t (Us.map fun (U : Tn) => Value.type U.nm) | none => none) = _
    rw [h1, List.any_cons]
    cases f U with
    | true => rfl
    | false => exact h2
section
variable {Γ : Gx} {X : Cx} {e : Expr} {te : TE} {we : WO} {x : Str} {p pos : Pos} {e2 : Expr} {U : Tn}
theorem ve_isiT {Us : List Tn} {cs : List Str} {x1 : Nat} {tpos : Pos} {es : List Expr} (hK : X.K = Γ.K) (h : VO Γ X e te we) (h2 : PA X es (tTys Us)) (hz : Us.length ≤ 8) (hg : Gl X "isinstance") (hm : X.mg "isinstance" = none)
    (hI : ∀ c ∈ cs, ∀ C, Γ.mg c = some (.ref C) → IsiO Γ.K C) (hU : ∀ c ∈ cs, ∀ C, Γ.mg c = some (.ref C) → ∀ U ∈ Us, PySem.W.kitOne Γ.K (.ref C) (.type U.nm) = some false)
    (he : starEach (e :: [.Tuple es x1 tpos]) X.env = (false, eval e X.env) :: starEach [.Tuple es x1 tpos] X.env := by rfl) (he2 : starEach [.Tuple es x1 tpos] X.env = (false, eval (.Tuple es x1 tpos) X.env) :: starEach [] X.env := by rfl) (hpl : (backTo pos (starEach [.Tuple es x1 tpos] X.env)).any (·.1) = false := by rfl) :
    VE Γ X (.Call (.Name "isinstance" p) [e, .Tuple es x1 tpos] [] pos) (tCB (rIsiT Γ.K) (tCons te (tCons (tTup (tTys Us)) tNil))) (wIsiT cs Us we) :=
  ⟨pe_callB (by rw [← hK]; exact call_isiT) hg hm (by decide +kernel) (pa_cons h.pe (pa_cons (pe_tup h2) pa_nil he2) he) (by decide) (by decide) he hpl, ⟨fun {T σ ρ Q Q'} S hw q => h.se.h S hw fun v T1 a ρ1 S1 e1 r1 q1 => by
    refine tTys_run (Us := Us) ⟨by rw [List.length_map, sizeLine_eq]; omega, fun tp n => ?_⟩
    have g := Gr.new (o := .tup (Us.map fun (U : Tn) => V.ty U.nm)) S1.ok n
    have S2 := S1.grow g
    obtain ⟨d, r, ht, q1⟩ := S2.rs1 (r1.ext g.ext) q1
    rcases ro_kn hI S2.ok r ht with ⟨_, S, hS, tS, ty⟩ | ⟨c, fs, C, rfl, hc, m, ty⟩
    · exact ⟨v, tp, _, .type S, _, _, rfl, upd_same, tys_cls, ty, kitAny_of (f := fun U => d.isTy U) fun U _ => kit_ty (kit_tab tS), q (.bl _) _ _ ρ1 S2 (e1.trans g.ext) (.bl _) q1⟩
    · exact ⟨v, tp, _, .ref C, _, _, rfl, upd_same, tys_cls, ty, kitAny_of (f := fun U => (D.obj c fs).isTy U) fun U hU' => by rw [hU c hc C m U hU']; cases U <;> rfl, q (.bl _) _ _ ρ1 S2 (e1.trans g.ext) (.bl _) q1⟩⟩⟩
theorem ve_isiB {cs : List Str} (hK : X.K = Γ.K) (h : VO Γ X e te we) (h2 : PE X e2 (tC (.ty U.nm))) (hg : Gl X "isinstance") (hm : X.mg "isinstance" = none)
    (hI : ∀ c ∈ cs, ∀ C, Γ.mg c = some (.ref C) → IsiO Γ.K C) (hU : ∀ c ∈ cs, ∀ C, Γ.mg c = some (.ref C) → PySem.W.kitOne Γ.K (.ref C) (.type U.nm) = some false)
    (he : starEach (e :: [e2]) X.env = (false, eval e X.env) :: starEach [e2] X.env := by rfl) (he2 : starEach [e2] X.env = (false, eval e2 X.env) :: starEach [] X.env := by rfl) (hpl : (backTo pos (starEach [e2] X.env)).any (·.1) = false := by rfl) :
    VE Γ X (.Call (.Name "isinstance" p) [e, e2] [] pos) (tCB (rIsi Γ.K) (tCons te (tCons (tC (.ty U.nm)) tNil))) (wIsiT cs [U] we) :=
  ⟨pe_callB (by rw [← hK]; exact call_isi) hg hm (by decide +kernel) (pa_cons h.pe (pa_cons h2 pa_nil he2) he) (by decide) (by decide) he hpl, ⟨fun {T σ ρ Q Q'} S hw q => h.se.h S hw fun v T1 a ρ1 S1 e1 r1 q1 => by
    obtain ⟨d, r, ht, q1⟩ := S1.rs1 r1 q1
    rcases ro_kn hI S1.ok r ht with ⟨hn, S, hS, tS, ty⟩ | ⟨c', fs, C', rfl, hc, m, ty⟩
    · rw [List.any_cons, List.any_nil, Bool.or_false] at q1
      exact ⟨v, _, _, _, _, rfl, .ty _, ty, kit_ty (kit_tab tS), q (.bl _) T1 _ ρ1 S1 e1 (.bl _) q1⟩
    · refine ⟨v, _, _, _, _, rfl, .ty _, ty, hU c' hc C' m, q (.bl _) T1 _ ρ1 S1 e1 (.bl _) ?_⟩
      cases U <;> exact q1⟩⟩
theorem ve_isiO {cs : List Str} {c : Str} {C : Addr} (hK : X.K = Γ.K) (h : VO Γ X e te we) (h2 : PE X e2 (tC (.ref C))) (hg : Gl X "isinstance") (hm : X.mg "isinstance" = none)
    (hI : ∀ c ∈ cs, ∀ C, Γ.mg c = some (.ref C) → IsiO Γ.K C) (hB : ∀ S ∈ bnames, PySem.W.kitOne Γ.K (.type S) (.ref C) = some false) (hC : ∀ c' ∈ cs, ∀ C', Γ.mg c' = some (.ref C') → PySem.W.kitOne Γ.K (.ref C') (.ref C) = some (decide (c' = c)))
    (he : starEach (e :: [e2]) X.env = (false, eval e X.env) :: starEach [e2] X.env := by rfl) (he2 : starEach [e2] X.env = (false, eval e2 X.env) :: starEach [] X.env := by rfl) (hpl : (backTo pos (starEach [e2] X.env)).any (·.1) = false := by rfl) :
    VE Γ X (.Call (.Name "isinstance" p) [e, e2] [] pos) (tCB (rIsi Γ.K) (tCons te (tCons (tC (.ref C)) tNil))) (wIsiO cs c we) :=
  ⟨pe_callB (by rw [← hK]; exact call_isi) hg hm (by decide +kernel) (pa_cons h.pe (pa_cons h2 pa_nil he2) he) (by decide) (by decide) he hpl, ⟨fun {T σ ρ Q Q'} S hw q => h.se.h S hw fun v T1 a ρ1 S1 e1 r1 q1 => by
    obtain ⟨d, r, ht, q1⟩ := S1.rs1 r1 q1
    rcases ro_kn hI S1.ok r ht with ⟨hn, S, hS, tS, ty⟩ | ⟨c', fs, C', rfl, hc, m, ty⟩
    · have : d.isCl c = false := by cases d <;> first | rfl | cases hn
      rw [this] at q1
      exact ⟨v, _, _, _, _, rfl, .own C, ty, hB S hS, q (.bl _) T1 _ ρ1 S1 e1 (.bl _) q1⟩
    · exact ⟨v, _, _, _, _, rfl, .own C, ty, hC c' hc C' m, q (.bl _) T1 _ ρ1 S1 e1 (.bl _) q1⟩⟩⟩
end
end Vl

namespace Vl
open PySem PySem.Spec PyProof.Rows L2 Hl
/-! ### calls by keywords alone -/
/-- the values in the parameters' order -/
def reo {α : Type} (pm : List Nat) (l : List α) : List α := pm.filterMap (l[·]?)
theorem paired_at {α β : Type} {r : α → β → Prop} : ∀ {vs : List α} {us : List β}, Paired r vs us → ∀ i : Nat, (vs[i]? = none ∧ us[i]? = none) ∨ ∃ v u, vs[i]? = some v ∧ us[i]? = some u ∧ r v u
  | _, _, .nil, i => .inl ⟨rfl, rfl⟩
  | _, _, .cons h t, 0 => .inr ⟨_, _, rfl, rfl, h⟩
  | _, _, .cons h t, i + 1 => paired_at t i
theorem paired_reo {α β : Type} {r : α → β → Prop} {vs : List α} {us : List β} (h : Paired r vs us) : ∀ pm : List Nat, Paired r (reo pm vs) (reo pm us)
  | [] => .nil
  | i :: pm => by
    have ih := paired_reo h pm
    unfold reo at ih ⊢
    rw [List.filterMap_cons, List.filterMap_cons]
    rcases paired_at h i with ⟨e1, e2⟩ | ⟨v, u, e1, e2, hr⟩
    · rw [e1, e2]; exact ih
    · rw [e1, e2]; exact .cons hr ih
section
variable {Γ : Gx} {T : Wo} {σ : L2.St}
theorem ARs.at : ∀ {vs : List V} {us : List AI}, ARs Γ T σ vs us → ∀ i : Nat, (vs[i]? = none ∧ us[i]? = none) ∨ ∃ v u, vs[i]? = some v ∧ us[i]? = some u ∧ AR Γ T σ v u
  | _, _, .nil, i => .inl ⟨rfl, rfl⟩
  | _, _, .cons h t, 0 => .inr ⟨_, _, rfl, rfl, h⟩
  | _, _, .cons h t, i + 1 => t.at i
theorem ARs.reo {vs : List V} {us : List AI} (h : ARs Γ T σ vs us) : ∀ pm : List Nat, ARs Γ T σ (Vl.reo pm vs) (Vl.reo pm us)
  | [] => .nil
  | i :: pm => by
    have ih := h.reo pm
    unfold Vl.reo at ih ⊢
    rw [List.filterMap_cons, List.filterMap_cons]
    rcases h.at i with ⟨e1, e2⟩ | ⟨v, u, e1, e2, hr⟩
    · rw [e1, e2]; exact ih
    · rw [e1, e2]; exact .cons hr ih
end
def reoK {α : Type} (pm : List Nat) (us ws : List α) : List α := if us.length = 0 ∧ ws.length = pm.length then reo pm ws else []
theorem paired_len {α β : Type} {r : α → β → Prop} : ∀ {vs : List α} {us : List β}, Paired r vs us → vs.length = us.length
  | _, _, .nil => rfl
  | _, _, .cons _ t => by rw [List.length_cons, List.length_cons, paired_len t]
theorem reoK_rel {pm : List Nat} {vs : List V} {us : List Value} {zs : List V} {ws : List Value} (h1 : Vals vs us) (h2 : Vals zs ws) : Vals (reoK pm vs zs) (reoK pm us ws) := by
  unfold reoK
  rw [paired_len h1, paired_len h2]
  split
  · exact paired_reo h2 pm
  · exact .nil
theorem reoK_len {pm : List Nat} {us ws : List Value} {n : Nat} (h : (reoK pm us ws).length = n + 1) : us = [] ∧ ws.length = pm.length := by
  unfold reoK at h
  split at h
  · rename_i z; exact ⟨List.eq_nil_of_length_eq_zero z.1, z.2⟩
  · cases h
structure VKw (Γ : Gx) (X : Cx) (kws : List Keyword) (t : TA) (w : WA) : Prop where
  pe : PK X kws t
  se : SA Γ t w
section
variable {Γ : Gx} {X : Cx} {e : Expr} {te : TE} {we : WO} {kws : List Keyword} {t : TA} {w : WA} {kpos : Pos} {nm : Option Str}
theorem vk_nil : VKw Γ X [] tNil wNil := ⟨pk_nil, ⟨fun {T σ ρ Q Q'} S h q => q [] T [] ρ S .refl .nil h⟩⟩
theorem vk_cons (h : VO Γ X e te we) (h' : VKw Γ X kws t w) : VKw Γ X (⟨nm, e, kpos⟩ :: kws) (tCons te t) (wCons we w) := ⟨pk_cons h.pe h'.pe, ⟨fun {T σ ρ Q Q'} S hw q =>
  h.se.h S hw fun v T1 a ρ1 S1 e1 r1 q1 => h'.se.h S1 q1 fun vs T2 as ρ2 S2 e2 r2 q2 => q (v :: vs) T2 (a :: as) ρ2 S2 (e1.trans e2) (.cons (r1.ext e2) r2) q2⟩⟩
variable {CX : CXT} {k : Nat} {f : Addr} {fd : FuncData} {ps ks : List Str} {W : WF1} {E : XK} {x : Str} {p pos : Pos}
/-- f(k = v, ..): pm tells where each parameter's value stands in the text -/
@[simp] def wCallK (W : WF1) (pm : List Nat) (w : WA) : WE := fun ρ Q => w ρ fun as ρ1 => as.length = pm.length ∧ rsN ρ1 (reo pm as) fun ds => W ds fun d => ((reo pm as).any (isO ρ1) = true → d.free = true) ∧ Q d ρ1
theorem ARs.len {T : Wo} {σ : L2.St} : ∀ {vs : List V} {us : List AI}, ARs Γ T σ vs us → vs.length = us.length
  | _, _, .nil => rfl
  | _, _, .cons _ t => by rw [List.length_cons, List.length_cons, t.len]
theorem ve_callK {pm : List Nat} (F : FnOk X.prog X.w X.K X.mg X.base CX k f fd ps (spV Γ W)) (hr : Room k X.A) (hg : Gl X x) (hm : X.mg x = some (.ref f)) (hk : PySem.W.keepIn X.K (.ref f) = true) (hb : KBinds X.K fd ps ks (reoK pm) (reoK pm)) (hx : Passes CX X E)
    (hkw : VKw Γ X kws t w) (hall : (backToKw pos (keywordEach kws X.env)).all (·.1.isSome) = true := by rfl) (hks : (backToKw pos (keywordEach kws X.env)).filterMap (·.1) = ks := by rfl)
    (hdb : (x == ("__debug__" : Str)) = false := by decide)
    (hpl : ((backTo pos (starEach [] X.env)).any (·.1) || (backToKw pos (keywordEach kws X.env)).any (·.1.isNone)) = false := by rfl) :
    VE Γ X (.Call (.Name x p) [] kws pos) (tCallK (spV Γ W) (reoK pm) E tNil t) (wCallK W pm w) :=
  ⟨pe_callK0 F hr hg hm hk hb hx hkw.pe hall hks hdb hpl, ⟨fun {T σ ρ Q Q'} S hw q => hkw.se.h S hw fun vs T1 as ρ1 S1 e1 r1 q1 => by
    show spV Γ W (reoK pm [] vs) T1.H Q' E
    have e : reoK pm [] vs = reo pm vs ++ [] := by
      unfold reoK
      rw [if_pos ⟨rfl, by rw [r1.len]; exact q1.1⟩, List.append_nil]
    rw [e]
    refine S1.call (r1.reo pm) (dd := []) (fun _ _ => .nil) ?_ fun v T2 d S2 e2 r2 q2 => q v T2 d ρ1 S2 (e1.trans e2) r2 q2
    simpa using q1.2⟩⟩
end
end Vl

namespace Vl
open PySem PySem.Spec PyProof.Rows L2 Hl
/-! ### what is known of the text's classes -/
theorem kit_base {K : PySem.W.Frag} {C : Addr} (h : ((PySem.W.clsIn K C).isSome && PySem.W.typeIn K (.ref C) == some (.type "type")) = true) : ∀ S ∈ bnames, PySem.W.kitOne K (.type S) (.ref C) = some false := by
  intro S hS
  simp only [bnames, List.mem_cons, List.not_mem_nil, or_false] at hS
  rcases hS with rfl | rfl | rfl | rfl | rfl | rfl
  all_goals
    show (if ((PySem.W.clsIn K C).isSome && PySem.W.typeIn K (.ref C) == some (.type "type")) = true then some false else none) = some false
    rw [if_pos h]
theorem kit_own {K : PySem.W.Frag} {C : Addr} : PySem.W.kitOne K (.ref C) (.ref C) = some true := by
  unfold PySem.W.kitOne
  rw [if_pos (by simp)]
theorem kit_bi {K : PySem.W.Frag} {C : Addr} {U : Tn} (h : PySem.W.mroIn K C (.type U.nm) = some false) : PySem.W.kitOne K (.ref C) (.type U.nm) = some false := by
  cases U <;> exact h
section
variable {mg : Str → Option Value} {P : Str → Addr → Prop} {c : Str} {C0 : Addr} {cs : List Str}
theorem kn_nil : ∀ c ∈ ([] : List Str), ∀ C, mg c = some (.ref C) → P c C := fun c h => by cases h
theorem kn_cons (m : mg c = some (.ref C0)) (p : P c C0) (h : ∀ c ∈ cs, ∀ C, mg c = some (.ref C) → P c C) : ∀ c' ∈ c :: cs, ∀ C, mg c' = some (.ref C) → P c' C := fun c' hc C hC => by
  rcases List.mem_cons.1 hc with rfl | hc
  · have e := m.symm.trans hC
    injection e with e
    injection e with e
    rw [← e]; exact p
  · exact h c' hc C hC
end
end Vl

namespace Vl
open PySem PySem.Spec PyProof.Rows L2 Hl
/-! ### str(int), list(range(..)), tuple(range(..)) -/
@[simp] def gStr : GN
  | [.int i], k => i.natAbs.log2 < 1920 ∧ k (.str (Str.ofString (toString i)))
  | _, _ => False
@[simp] def cInt : D → (Int → Prop) → Prop
  | .int i, k => k i
  | _, _ => False
section
variable {Γ : Gx} {X : Cx}
def rStr1 : List V → Hp → VK → Prop := fun xs H Q => ∃ i : Int, xs = [.int i] ∧ i.natAbs.log2 < 1920 ∧ Q (.str (Str.ofString (toString i))) H
theorem kcr_str : CallR X (.type "str") rStr1 := call_str_int
theorem cs_str : CS Γ rStr1 gStr := ⟨fun {T xs as Q Q'} ok r h q => by
  unfold gStr at h
  split at h
  · obtain ⟨v, rfl, r'⟩ := r.one
    cases r'.int
    exact ⟨_, rfl, h.1, gr_sc ok q (.str _) h.2⟩
  · exact h.elim⟩
theorem ra_rg {H0 Hd : Hp} {a b : Int} : RA Γ H0 Hd (rgV a b) (rgD a (b - a).toNat) := by
  unfold rgV rgD
  generalize List.range (b - a).toNat = l
  induction l with
  | nil => exact .nil
  | cons i l ih => exact .cons (.int _) ih
theorem rg_ok {a b : Int} (h : (-(2 ^ 62) ≤ a ∧ a < 2 ^ 62 ∧ -(2 ^ 62) ≤ b ∧ b < 2 ^ 62) ∧ (b - a).toNat ≤ 2 ^ 24) : RgOk a b := by
  unfold RgOk
  exact ⟨by omega, by omega, by omega, by omega, by omega⟩
@[simp] def wRgT (a b : WE) : WE := fun ρ Q => a ρ fun x ρ1 => b ρ1 fun y ρ2 => cInt x fun i => cInt y fun j => ((-(2 ^ 62) ≤ i ∧ i < 2 ^ 62 ∧ -(2 ^ 62) ≤ j ∧ j < 2 ^ 62) ∧ (j - i).toNat ≤ 2 ^ 24) ∧ Q (.tup (rgD i (j - i).toNat)) ρ2
@[simp] def wRgT1 (b : WE) : WE := fun ρ Q => b ρ fun y ρ2 => cInt y fun j => ((-(2 ^ 62) ≤ j ∧ j < 2 ^ 62) ∧ j.toNat ≤ 2 ^ 24) ∧ Q (.tup (rgD 0 j.toNat)) ρ2
@[simp] def wRgL (a b : WE) : WF := fun ρ Q => a ρ fun x ρ1 => b ρ1 fun y ρ2 => cInt x fun i => cInt y fun j => ((-(2 ^ 62) ≤ i ∧ i < 2 ^ 62 ∧ -(2 ^ 62) ≤ j ∧ j < 2 ^ 62) ∧ (j - i).toNat ≤ 2 ^ 24) ∧ Q (rgD i (j - i).toNat) ρ2
@[simp] def wRgL1 (b : WE) : WF := fun ρ Q => b ρ fun y ρ2 => cInt y fun j => ((-(2 ^ 62) ≤ j ∧ j < 2 ^ 62) ∧ j.toNat ≤ 2 ^ 24) ∧ Q (rgD 0 j.toNat) ρ2
variable {e1 e2 : Expr} {t1 t2 : TE} {w1 w2 : WE} {p p2 pos pos2 : Pos}
theorem ve_rgT1 (hc : X.calm = true) (hg : Gl X "tuple") (hm : X.mg "tuple" = none) (hg2 : Gl X "range") (hm2 : X.mg "range" = none) (h : VE Γ X e1 t1 w1) (he : starEach [e1] X.env = (false, eval e1 X.env) :: starEach [] X.env := by rfl)
    (he2 : starEach [.Call (.Name "range" p2) [e1] [] pos2] X.env = (false, eval (.Call (.Name "range" p2) [e1] [] pos2) X.env) :: starEach [] X.env := by rfl) :
    VE Γ X (.Call (.Name "tuple" p) [.Call (.Name "range" p2) [e1] [] pos2] [] pos) (tTupRg (tRg1 t1)) (wRgT1 w1) := ⟨pe_tupRg hc hg hm (prg_1 hg2 hm2 h.pe he) he2, ⟨fun {T σ ρ Q Q'} S hw q => h.se.h S hw fun v T1 d ρ1 S1 e1 r1 q1 => by
  cases d <;> first | exact q1.elim | skip
  cases r1
  rename_i j
  obtain ⟨hz, q1⟩ := q1
  have e0 : (j - 0).toNat = j.toNat := by rw [Int.sub_zero]
  refine ⟨j, rfl, rg_ok ⟨⟨by omega, by omega, hz.1.1, hz.1.2⟩, by rw [e0]; exact hz.2⟩, fun a n => ?_⟩
  have g := Gr.new (o := .tup (rgV 0 j)) S1.ok n
  have r := r_tup S1.ok n (ra_rg (Γ := Γ) (a := 0) (b := j))
  rw [e0] at r
  exact q _ _ _ ρ1 (S1.grow g) (e1.trans g.ext) r q1⟩⟩
theorem vf_rgL1 (hc : X.calm = true) (hg : Gl X "list") (hm : X.mg "list" = none) (hg2 : Gl X "range") (hm2 : X.mg "range" = none) (h : VE Γ X e1 t1 w1) (he : starEach [e1] X.env = (false, eval e1 X.env) :: starEach [] X.env := by rfl)
    (he2 : starEach [.Call (.Name "range" p2) [e1] [] pos2] X.env = (false, eval (.Call (.Name "range" p2) [e1] [] pos2) X.env) :: starEach [] X.env := by rfl) :
    VF Γ X (.Call (.Name "list" p) [.Call (.Name "range" p2) [e1] [] pos2] [] pos) (tLstRg (tRg1 t1)) (wRgL1 w1) := ⟨pe_listRg hc hg hm (prg_1 hg2 hm2 h.pe he) he2, ⟨fun {T σ ρ Q Q'} S hw q => h.se.h S hw fun v T1 d ρ1 S1 e1 r1 q1 => by
  cases d <;> first | exact q1.elim | skip
  cases r1
  rename_i j
  obtain ⟨hz, q1⟩ := q1
  have e0 : (j - 0).toNat = j.toNat := by rw [Int.sub_zero]
  refine ⟨j, rfl, rg_ok ⟨⟨by omega, by omega, hz.1.1, hz.1.2⟩, by rw [e0]; exact hz.2⟩, fun a n => ?_⟩
  have r := ra_rg (Γ := Γ) (H0 := T1.H0) (Hd := T1.Hd) (a := 0) (b := j)
  rw [e0] at r
  exact sf_new S1 e1 q n r q1⟩⟩
theorem ve_rgT (hc : X.calm = true) (hg : Gl X "tuple") (hm : X.mg "tuple" = none) (hg2 : Gl X "range") (hm2 : X.mg "range" = none) (h : VE Γ X e1 t1 w1) (h' : VE Γ X e2 t2 w2) (he : starEach [e1, e2] X.env = (false, eval e1 X.env) :: starEach [e2] X.env := by rfl) (hf : starEach [e2] X.env = (false, eval e2 X.env) :: starEach [] X.env := by rfl) (hp : (backTo pos2 (starEach [e2] X.env)).any (·.1) = false := by rfl)
    (he2 : starEach [.Call (.Name "range" p2) [e1, e2] [] pos2] X.env = (false, eval (.Call (.Name "range" p2) [e1, e2] [] pos2) X.env) :: starEach [] X.env := by rfl) :
    VE Γ X (.Call (.Name "tuple" p) [.Call (.Name "range" p2) [e1, e2] [] pos2] [] pos) (tTupRg (tRg2 t1 t2)) (wRgT w1 w2) := ⟨pe_tupRg hc hg hm (prg_2 hg2 hm2 h.pe h'.pe he hf hp) he2, ⟨fun {T σ ρ Q Q'} S hw q => h.se.h S hw fun v T1 d ρ1 S1 e1 r1 q1 => h'.se.h S1 q1 fun v2 T2 d2 ρ2 S2 e2 r2 q2 => by
  cases d <;> first | exact q2.elim | skip
  cases d2 <;> first | exact q2.elim | skip
  cases r1
  cases r2
  obtain ⟨hz, q2⟩ := q2
  rename_i i j
  refine ⟨i, j, rfl, rfl, rg_ok hz, fun a n => ?_⟩
  have g := Gr.new (o := .tup (rgV i j)) S2.ok n
  exact q _ _ _ ρ2 (S2.grow g) ((e1.trans e2).trans g.ext) (r_tup S2.ok n ra_rg) q2⟩⟩
theorem vf_rgL (hc : X.calm = true) (hg : Gl X "list") (hm : X.mg "list" = none) (hg2 : Gl X "range") (hm2 : X.mg "range" = none) (h : VE Γ X e1 t1 w1) (h' : VE Γ X e2 t2 w2) (he : starEach [e1, e2] X.env = (false, eval e1 X.env) :: starEach [e2] X.env := by rfl) (hf : starEach [e2] X.env = (false, eval e2 X.env) :: starEach [] X.env := by rfl) (hp : (backTo pos2 (starEach [e2] X.env)).any (·.1) = false := by rfl)
    (he2 : starEach [.Call (.Name "range" p2) [e1, e2] [] pos2] X.env = (false, eval (.Call (.Name "range" p2) [e1, e2] [] pos2) X.env) :: starEach [] X.env := by rfl) :
    VF Γ X (.Call (.Name "list" p) [.Call (.Name "range" p2) [e1, e2] [] pos2] [] pos) (tLstRg (tRg2 t1 t2)) (wRgL w1 w2) := ⟨pe_listRg hc hg hm (prg_2 hg2 hm2 h.pe h'.pe he hf hp) he2, ⟨fun {T σ ρ Q Q'} S hw q => h.se.h S hw fun v T1 d ρ1 S1 e1 r1 q1 => h'.se.h S1 q1 fun v2 T2 d2 ρ2 S2 e2 r2 q2 => by
  cases d <;> first | exact q2.elim | skip
  cases d2 <;> first | exact q2.elim | skip
  cases r1
  cases r2
  obtain ⟨hz, q2⟩ := q2
  exact ⟨_, _, rfl, rfl, rg_ok hz, fun a n => sf_new S2 (e1.trans e2) q n ra_rg q2⟩⟩⟩
end
end Vl

namespace HT
open PySem PySem.Spec PyProof.Rows
section
variable {prog : Program} {w : World} {A : Around} {E : Value → Shared → Prop} {s : Shared}
/-- t[::-1] of a tuple -/
theorem adjust_rev (n : Nat) : Builtin.Slice.sliceAdjust none none (-1) (n : Int) = ((n : Int) - 1, -1) := by
  unfold Builtin.Slice.sliceAdjust
  simp
theorem places_rev (n : Nat) : Builtin.Slice.slicePlaces ((n : Int) - 1) (-1) (-1) = n := by
  unfold Builtin.Slice.slicePlaces
  simp
  omega
theorem sliceApplied_rev {sl : Addr} {vl vu vs : Value} {n : Nat} {Q : Int × Int × Nat → Shared → Prop} (hs : s.heap.IsSliceOf sl vl vu vs) (pl : IsPart vl none) (pu : IsPart vu none) (ps : IsPart vs (some (-1)))
    (h : Q ((n : Int) - 1, -1, n) s) : wpAny (model prog w) A (Builtin.Slice.sliceApplied (.ref sl) (pure (n : Int))) Q E s := by
  obtain ⟨os, hos, hcs, hds⟩ := id hs
  unfold Builtin.Slice.sliceApplied Builtin.Slice.sliceFields
  refine wpAny_bind (wpAny_bind (wpAny_field hos hds (x := vl) rfl (wpAny_bind (wpAny_field hos hds (x := vu) rfl (wpAny_bind (wpAny_field hos hds (x := vs) rfl (wpAny_pure ?_)))))))
  refine wpAny_bind (slicePart_ ps ?_)
  show wpAny _ _ (if ((-1 : Int) == 0) = true then _ else _) _ _ s
  rw [if_neg (by decide)]
  refine wpAny_bind (slicePart_ pl (wpAny_bind (slicePart_ pu (wpAny_bind (wpAny_pure ?_)))))
  show wpAny _ _ (match Builtin.Slice.sliceAdjust none none (-1) (n : Int) with | (lo, hi) => pure (lo, (-1 : Int), Builtin.Slice.slicePlaces lo hi (-1))) _ _ s
  rw [adjust_rev]
  show wpAny _ _ (pure ((n : Int) - 1, (-1 : Int), Builtin.Slice.slicePlaces ((n : Int) - 1) (-1) (-1))) _ _ s
  rw [places_rev]
  exact wpAny_pure h
theorem fm_congr {α β : Type} {f g : α → Option β} : ∀ {l : List α}, (∀ a ∈ l, f a = g a) → l.filterMap f = l.filterMap g
  | [], _ => rfl
  | a :: l, h => by
    rw [List.filterMap_cons, List.filterMap_cons, h a (List.mem_cons_self ..), fm_congr fun b hb => h b (List.mem_cons_of_mem _ hb)]
theorem pick_rev (xs : Array Value) : ((List.range xs.size).filterMap fun (m : Nat) => xs[(((xs.size : Int) - 1) + (m : Int) * (-1)).toNat]?).toArray = xs.toList.reverse.toArray := by
  have e : ∀ m ∈ List.range xs.size, xs[(((xs.size : Int) - 1) + (m : Int) * (-1)).toNat]? = ((fun i => xs[i]?) ∘ fun k => xs.size - 1 - k) m := fun m hm => by
    have := List.mem_range.1 hm
    have : (((xs.size : Int) - 1) + (m : Int) * (-1)).toNat = xs.size - 1 - m := by omega
    rw [this]; rfl
  rw [fm_congr e, ← List.filterMap_map, PySem.W.krv_range, List.filterMap_reverse, PySem.W.krv_all]
theorem getItem_tuple_rev {t sl : Addr} {items : Array Value} {vl vu vs : Value} {Q : Value → Shared → Prop} (ht : IsTup s.heap t items) (hs : s.heap.IsSliceOf sl vl vu vs) (pl : IsPart vl none) (pu : IsPart vu none) (ps : IsPart vs (some (-1)))
    (h : Q (.ref s.heap.objs.size) { s with heap := s.heap.push { cls := .type "tuple", data := .seq items.toList.reverse.toArray } })
    (hsz : items.size ≤ sizeLine) : wpAny (model prog w) A (getItem (.ref t) (.ref sl)) Q E s := by
  have htake : sizeOk (.seq items.toList.reverse.toArray) := by
    show items.toList.reverse.toArray.size ≤ sizeLine
    rw [List.size_toArray, List.length_reverse, Array.length_toList]
    exact hsz
  obtain ⟨os, hos, hcs, hds⟩ := id hs
  have hTs : s.TypeIs (.ref sl) "slice" := ⟨os, hos, hcs⟩
  unfold getItem
  try with_reducible refine wpAny_holding ?_
  first | refine wpAny_bind (wpAny_pure ?_) | skip
  refine wpAny_bind (wpAny_sequenceKey ht.typeIs (by decide) ?_)
  refine wpAny_bind (wpAny_callSpecial?_slot (name := Str.ofString "__getitem__") ht.typeIs PyProof.Rows.slot_tuple_getitem
    (wpAny_call_entry PyProof.Rows.slot_tuple_getitem ht.typeIs entry_tuple_getitem ?_ (args_tuple_getitem _ _)))
  show wpAny _ _ (Builtin.Tuple.tupleItemsOf (.ref t) >>= _) _ _ s
  refine wpAny_bind (tupleItemsOf_ ht ?_)
  refine wpAny_bind (wpAny_typeOf hTs ?_)
  rw [if_pos (by decide)]
  refine wpAny_bind (sliceApplied_rev hs pl pu ps ?_)
  have hno : ¬ ((((items.size : Int) - 1) == 0 && (-1 : Int) == 1 && items.size == items.size) = true) := by
    intro q
    rw [Bool.and_eq_true, Bool.and_eq_true] at q
    exact absurd q.1.2 (by decide)
  show wpAny _ _ (if (((items.size : Int) - 1) == 0 && (-1 : Int) == 1 && items.size == items.size) = true then _ else _) _ _ s
  rw [if_neg hno, pick_rev]
  first
    | exact wpAny_bind (m := Builtin.Tuple.tupleExact _) (wpAny_newObj_type (wpAny_pure ⟨_, rfl, wpAny_pure h⟩) htake)
    | exact wpAny_bind (m := Builtin.Tuple.tupleExact _) (wpAny_newObj_type (wpAny_bind (wpAny_pure (wpAny_pure ⟨_, rfl, wpAny_pure h⟩))) htake)
    | exact wpAny_bind (wpAny_bind (m := Builtin.Tuple.tupleExact _) (wpAny_newObj_type (wpAny_pure (wpAny_pure ⟨_, rfl, wpAny_pure h⟩)) htake))
    | exact wpAny_bind (wpAny_bind (m := Builtin.Tuple.tupleExact _) (wpAny_newObj_type (wpAny_pure ⟨_, rfl, wpAny_pure h⟩) htake))
end
end HT
namespace Vl
open PySem PySem.Spec PyProof.Rows L2 Hl
section
variable {X : Cx} {e st : Expr} {te ts : TE} {p3 pos : Pos}
/-- t[::step], the step being -1, of a tuple or a list -/
def tRevP (K : PySem.W.Frag) (te ts : TE) : TE := fun σ H Q => te σ H fun x H1 => tPart ts σ H1 (fun o H2 => o = some (-1) ∧ H2 = H1) ∧ ∃ a xs, x = .ref a ∧ ((SqT K H1 a xs ∧ ∀ p, H1 p = none → Q (.ref p) (upd H1 p (.tup xs.reverse))) ∨ (SqL K H1 a xs ∧ ∀ p, H1 p = none → Q (.ref p) (upd H1 p (.lst xs.reverse))))
theorem pe_revP (he : PE X e te) (hs : PE X st ts) : PE X (.Subscript e (.Slice none none (some st) p3) pos) (tRevP X.K te ts) := by
  refine ⟨fun pins s σ H Q I h => ?_⟩
  refine Subscript_ (thn (he.run pins s σ H _ I h) fun v s1 ⟨x, H1, I1, r1, q1⟩ => ?_)
  obtain ⟨hm1, a, xs, ex, q⟩ := q1
  subst ex
  cases r1
  have hst : PO X (some st) (tPart ts) := po_some hs
  refine wpAny_Slice (thn (po_none.run pins s1 σ H1 (fun o H2 => o = none ∧ H2 = H1) I1 ⟨rfl, rfl⟩) fun vl s2 ⟨l, H2, I2, pl, el, e2⟩ => ?_)
  subst el e2
  refine thn (po_none.run pins s2 σ H2 (fun o H3 => o = none ∧ H3 = H2) I2 ⟨rfl, rfl⟩) fun vu s3 ⟨u, H3, I3, pu, eu, e3⟩ => ?_
  subst eu e3
  refine thn (hst.run pins s3 σ H3 (fun o H4 => o = some (-1) ∧ H4 = H3) I3 hm1) fun vs s4 ⟨o, H4, I4, ps, eo, e4⟩ => ?_
  subst eo e4
  have I5 : Inv X pins σ H4 { s4 with heap := s4.heap.push { cls := .type "slice", data := .fields #[vl, vu, vs] } } := I4.kept (t' := s4.toks) fun b ob q => Heap.get?_push_of_some _ q
  rcases q with ⟨hx, q⟩ | ⟨hx, q⟩
  · obtain ⟨its, r, ht, hz⟩ := I5.tuple hx
    have hlen := r.length
    show wpAny (model X.prog X.w) X.A (subscriptTail e (.Slice none none (some st) p3) (.ref a) (.ref s4.heap.objs.size)) (EP X pins σ Q) X.xe { s4 with heap := s4.heap.push { cls := .type "slice", data := .fields #[vl, vu, vs] } }
    refine tail_any (ops := [.ref a, .ref s4.heap.objs.size]) ht.typeIs (PyProof.Rows.slot_tuple_getitem.lookup) ?_ (by with_unfolding_all rfl)
    refine HT.getItem_tuple_rev ht (Heap.IsSliceOf.new _ vl vu vs) pl pu ps ?_ (by rw [List.size_toArray]; omega)
    refine ⟨.ref _, _, I5.laid (t' := s4.toks) (o := .tup xs.reverse) (fun b ob q => Heap.get?_push_of_some _ q) (Nat.le_refl _) ?_, rfl, q _ (I5.hok.fresh (Nat.le_refl _))⟩
    exact ⟨by rw [List.length_reverse]; exact hz, _, r.reverse, IsTup.new _ _⟩
  · obtain ⟨its, r, ht, hz⟩ := I5.list hx
    have hlen := r.length
    show wpAny (model X.prog X.w) X.A (subscriptTail e (.Slice none none (some st) p3) (.ref a) (.ref s4.heap.objs.size)) (EP X pins σ Q) X.xe { s4 with heap := s4.heap.push { cls := .type "slice", data := .fields #[vl, vu, vs] } }
    refine tail_any (ops := [.ref a, .ref s4.heap.objs.size]) ht.isList.typeIs (PySem.slot_list_getitem.lookup) ?_ (by with_unfolding_all rfl)
    refine wpAny_getItem_list_slice ht.isList (Heap.IsSliceOf.new _ vl vu vs) pl pu ps (by decide) ?_ (by rw [List.size_toArray]; omega)
    rw [PySem.W.krv_pick]
    refine ⟨.ref _, _, I5.laid (t' := s4.toks) (o := .lst xs.reverse) (fun b ob q => Heap.get?_push_of_some _ q) (Nat.le_refl _) ?_, rfl, q _ (I5.hok.fresh (Nat.le_refl _))⟩
    exact ⟨by rw [List.length_reverse]; exact hz, _, 0, r.reverse, Heap.get?_push_size _ rfl⟩
end
/-- t[::-1], t[::0 - 1]: a tuple -/
@[simp] def wRevT (w : WO) : WE := fun ρ Q => w ρ fun a ρ1 => rs1 ρ1 a fun d => match d with
  | .tup l => Q (.tup l.reverse) ρ1
  | .lst l => Q (.lst l.reverse) ρ1
  | _ => False
section
variable {Γ : Gx} {X : Cx} {e st : Expr} {te ts : TE} {we : WO} {ws : WE} {p3 pos : Pos}
theorem ve_revT (hK : X.K = Γ.K) (h : VO Γ X e te we) (hs : VE Γ X st ts ws) (hm : ∀ σ H, tPart ts σ H (fun o H2 => o = some (-1) ∧ H2 = H)) : VE Γ X (.Subscript e (.Slice none none (some st) p3) pos) (tRevP Γ.K te ts) (wRevT we) := ⟨by rw [← hK]; exact pe_revP h.pe hs.pe, ⟨fun {T σ ρ Q Q'} S hw q => h.se.h S hw fun v T1 a ρ1 S1 e1 r1 q1 => by
  refine ⟨hm _ _, ?_⟩
  obtain ⟨d, r, q1⟩ := S1.rs1 r1 q1
  cases d <;> first | exact q1.elim | skip
  · obtain ⟨p, vs, rfl, hp, rp⟩ := r.tup S1.ok
    refine ⟨p, vs, rfl, .inl ⟨hp, fun a n => ?_⟩⟩
    have g := Gr.new (o := .tup vs.reverse) S1.ok n
    exact q _ _ _ ρ1 (S1.grow g) (e1.trans g.ext) (r_tup S1.ok n rp.reverse) q1
  · obtain ⟨p, vs, rfl, hp, rp⟩ := r.lst S1.ok
    refine ⟨p, vs, rfl, .inr ⟨SqL.of hp, fun a n => ?_⟩⟩
    have g := Gr.new (o := .lst vs.reverse) S1.ok n
    exact q _ _ _ ρ1 (S1.grow g) (e1.trans g.ext) (r_lst S1.ok n rp.reverse) q1⟩⟩
end
end Vl
namespace Vl
open PySem PySem.Spec PyProof.Rows L2 Hl
theorem kit_base2 {K : PySem.W.Frag} {C : Addr} (h4 : PySem.W.mroIn K C (.type "object") = some true) (ht : PySem.W.typeIn K (.ref C) = some (.type "type")) : ∀ S ∈ bnames, PySem.W.kitOne K (.type S) (.ref C) = some false := by
  refine kit_base ?_
  unfold PySem.W.mroIn at h4
  cases e : PySem.W.clsIn K C with
  | none => rw [e] at h4; cases h4
  | some cd => rw [ht]; rfl
end Vl

namespace Vl
open PySem PySem.Spec PyProof.Rows L2 Hl
/-! ### plain helpers for what a law asks -/
theorem rgD_zero {lo : Int} : rgD lo 0 = [] := rfl
theorem rgD_succ {lo : Int} {n : Nat} : rgD lo (n + 1) = .int lo :: rgD (lo + 1) n := by
  unfold rgD
  rw [List.range_succ_eq_map, List.map_cons, List.map_map]
  congr 1
  · simp
  · apply List.map_congr_left
    intro i _
    simp [Function.comp]
    omega
theorem for_cons {g : WG} {b : WS} {d : D} {ds : List D} {D' : EV} {ρ : Vn} : forV g b (d :: ds) D' ρ = g d ρ fun ρ1 => b { D' with nx := forV g b ds D', ct := forV g b ds D', bk := D'.nx } ρ1 := rfl
theorem for_nil {g : WG} {b : WS} {D' : EV} {ρ : Vn} : forV g b [] D' ρ = D'.nx ρ := rfl
theorem lc_v {α : Type} (enc : α → D) {i : Nat} {c : WT} {w : WE} {ρ : Vn} {Q : List D → Vn → Prop} (p : α → Bool) (out : α → D) (l : List α) (acc : List D)
    (hs : ∀ a ∈ l, ∀ (A : D → Vn → Prop) (B : Vn → Prop), (p a = true → A (out a) (ρ.set i (.val (enc a)))) → (p a = false → B (ρ.set i (.val (enc a)))) → c (ρ.set i (.val (enc a))) fun b ρ2 => (b = true → w ρ2 A) ∧ (b = false → B ρ2))
    (h0 : ρ.set i .no = ρ) (hz : acc.length + l.length ≤ sizeLine) (h : Q (acc ++ (l.filter p).map out) ρ) : lcV (gV i) c w [i] (l.map enc) acc ρ Q := by
  refine lc_of enc p out (fun a => ρ.set i (.val (enc a))) l acc (fun a ha A B h1 h2 => hs a ha A B h1 h2) (fun a => ?_) hz h
  simp [wipeV, h0]
@[simp] theorem flt_true {α : Type} (l : List α) : l.filter (fun _ => true) = l := by simp [List.filter_eq_self]
/-- a comprehension without a test -/
theorem lc_m {α : Type} (enc : α → D) {i : Nat} {c : WT} {w : WE} {ρ : Vn} {Q : List D → Vn → Prop} (out : α → D) (l : List α)
    (hs : ∀ a ∈ l, ∀ (A : D → Vn → Prop) (B : Vn → Prop), A (out a) (ρ.set i (.val (enc a))) → c (ρ.set i (.val (enc a))) fun b ρ2 => (b = true → w ρ2 A) ∧ (b = false → B ρ2))
    (h0 : ρ.set i .no = ρ) (hz : l.length ≤ sizeLine) (h : Q (l.map out) ρ) : lcV (gV i) c w [i] (l.map enc) [] ρ Q := by
  refine lc_v enc (fun _ => true) out l [] (fun a ha A B h1 h2 => hs a ha A B (h1 rfl)) h0 (by simpa using hz) ?_
  simpa using h
@[simp] theorem intsO_mapi {α : Type} (f : α → Int) (l : List α) : intsO (l.map fun x => D.int (f x)) = some (l.map f) := by
  have := intsO_ints (l.map f)
  rwa [List.map_map] at this
@[simp] theorem intsO_mapc {α : Type} (f : α → Int) (l : List α) : intsO (l.map (D.int ∘ f)) = some (l.map f) := intsO_mapi f l
@[simp] theorem blsO_mapb {α : Type} (f : α → Bool) (l : List α) : blsO (l.map fun x => D.bl (f x)) = some (l.map f) := by
  have := blsO_bls (l.map f)
  rwa [List.map_map] at this
@[simp] theorem blsO_mapc {α : Type} (f : α → Bool) (l : List α) : blsO (l.map (D.bl ∘ f)) = some (l.map f) := blsO_mapb f l
theorem opt_get {α : Type} {l : List α} {i : Nat} (h : i < l.length) : ∃ x, l[i]? = some x := ⟨_, List.getElem?_eq_getElem h⟩
theorem drop_at {α : Type} {c : List α} {i : Nat} {x : α} {r : List α} (h : c.drop i = x :: r) : c[i]? = some x ∧ c.drop (i + 1) = r := by
  refine ⟨?_, ?_⟩
  · have : (c.drop i)[0]? = some x := by rw [h]; rfl
    simpa using this
  · rw [← List.tail_drop, h]; rfl
theorem eraseIdx_mapI {α β : Type} (f : α → β) : ∀ (l : List α) (i : Nat), (l.map f).eraseIdx i = (l.eraseIdx i).map f
  | [], _ => rfl
  | _ :: _, 0 => rfl
  | a :: l, i + 1 => by rw [List.map_cons, List.eraseIdx_cons_succ, List.eraseIdx_cons_succ, List.map_cons, eraseIdx_mapI f l i]
theorem perm_erase {α : Type} : ∀ {l : List α} {i : Nat} (h : i < l.length), (l[i] :: l.eraseIdx i).Perm l
  | a :: l, 0, _ => List.Perm.refl _
  | a :: l, i + 1, h => by
    rw [List.eraseIdx_cons_succ, List.getElem_cons_succ]
    have hi : i < l.length := Nat.lt_of_succ_lt_succ h
    exact (List.Perm.swap ..).trans ((perm_erase hi).cons a)
@[simp] theorem free_ints (l : List Int) : (tI l).free = true := by
  show D.freeL (l.map D.int) = true
  induction l with
  | nil => rfl
  | cons x l ih => rw [List.map_cons, D.freeL, ih]; rfl
def rl (n : Nat) : List Int := (List.range n).map fun i => ((i : Nat) : Int)
theorem rl_len {n : Nat} : (rl n).length = n := by simp [rl]
theorem mem_rl {n : Nat} {x : Int} : x ∈ rl n ↔ 0 ≤ x ∧ x < n := by
  simp only [rl, List.mem_map, List.mem_range]
  constructor
  · rintro ⟨a, h, rfl⟩; omega
  · intro h; exact ⟨x.toNat, by omega, by omega⟩
theorem rl_nd (n : Nat) : (rl n).Nodup := by
  rw [List.nodup_iff_pairwise_ne, rl, List.pairwise_map]
  exact List.Pairwise.imp (fun {a b} h e => by omega) (List.pairwise_lt_range (n := n))
theorem rgD_rl (n : Nat) : rgD 0 n = (rl n).map D.int := by
  unfold rgD rl
  rw [List.map_map]
  refine List.map_congr_left fun i _ => ?_
  simp
theorem rgD_map (lo : Int) (n : Nat) : rgD lo n = (List.range n).map fun i => D.int (lo + (i : Nat)) := rfl
/-! places -/
theorem atI_pick {l : List Int} {r : Int} (h0 : 0 ≤ r) (h1 : r < l.length) : ∃ v ∈ l, atI (l.map D.int) r = some (.int v) := by
  obtain ⟨n, rfl⟩ : ∃ n : Nat, r = n := ⟨r.toNat, by omega⟩
  obtain ⟨x, e⟩ := opt_get (l := l) (i := n) (by omega)
  exact ⟨x, List.mem_of_getElem? e, atI_nat (by rw [List.getElem?_map, e]; rfl)⟩
theorem atI_pickD {l : List D} {r : Int} (h0 : 0 ≤ r) (h1 : r < l.length) : ∃ v ∈ l, atI l r = some v := by
  obtain ⟨n, rfl⟩ : ∃ n : Nat, r = n := ⟨r.toNat, by omega⟩
  obtain ⟨x, e⟩ := opt_get (l := l) (i := n) (by omega)
  exact ⟨x, List.mem_of_getElem? e, atI_nat e⟩
theorem atI_last {α : Type} {l : List α} {x : α} : atI (l ++ [x]) (-1) = some x := by
  have e : ixN (l ++ [x]).length (-1) = some l.length := by
    unfold ixN
    have h1 : ¬ ((0 : Int) ≤ -1) := by omega
    simp [h1]
    omega
  unfold atI
  rw [e]
  simp
/-! slices -/
theorem cut_take {l : List D} {n : Nat} : cutD l none (some (n : Int)) = l.take n := by
  unfold cutD
  rw [HT.sIx_nat, HT.sIx_none, List.drop_zero, Nat.sub_zero, ← List.take_eq_take_min]
theorem cut_drop {l : List D} {n : Nat} : cutD l (some (n : Int)) none = l.drop n := by
  unfold cutD
  rw [HT.sIx_nat, HT.sIx_none]
  by_cases h : n ≤ l.length
  · rw [Nat.min_eq_left h, List.take_of_length_le (by rw [List.length_drop]; omega)]
  · rw [Nat.min_eq_right (by omega), List.drop_of_length_le (Nat.le_refl _), List.drop_of_length_le (by omega), List.take_nil]
theorem cut_take' {l : List D} {i : Int} (h : 0 ≤ i) : cutD l none (some i) = l.take i.toNat := by
  have e : ((i.toNat : Nat) : Int) = i := Int.toNat_of_nonneg h
  rw [← e, cut_take]
  rfl
theorem cut_drop' {l : List D} {i : Int} (h : 0 ≤ i) : cutD l (some i) none = l.drop i.toNat := by
  have e : ((i.toNat : Nat) : Int) = i := Int.toNat_of_nonneg h
  rw [← e, cut_drop]
  rfl
theorem cut_init {l : List D} {x : D} : cutD (l ++ [x]) none (some (-1)) = l := by
  unfold cutD HT.sIx
  have h1 : ((-1 : Int) < 0) := by omega
  have h2 : (-1 + ((l.length : Int) + 1)).toNat = l.length := by omega
  simp [h1, h2]
theorem cut_last {l : List D} {x : D} : cutD (l ++ [x]) (some (-1)) none = [x] := by
  unfold cutD HT.sIx
  have h1 : ((-1 : Int) < 0) := by omega
  have h2 : (-1 + ((l.length : Int) + 1)).toNat = l.length := by omega
  simp [h1, h2]
/-! equality of ints' sequences -/
theorem eqvAll_ints : ∀ (a b : List Int), PyData.eqvAll (D.pdL (a.map D.int)) (D.pdL (b.map D.int)) = decide (a = b)
  | [], [] => by simp [D.pdL, PyData.eqvAll]
  | [], _ :: _ => by simp [D.pdL, PyData.eqvAll]
  | _ :: _, [] => by simp [D.pdL, PyData.eqvAll]
  | x :: a, y :: b => by
    have e : PyData.eqv (D.int x).pd (D.int y).pd = decide (x = y) := eqv_int
    rw [List.map_cons, List.map_cons, D.pdL, D.pdL, PyData.eqvAll, e, eqvAll_ints a b]
    by_cases h1 : x = y <;> by_cases h2 : a = b <;> simp [h1, h2]
@[simp] theorem eqv_lI {a b : List Int} : D.eqv (.lst (a.map D.int)) (.lst (b.map D.int)) = decide (a = b) := by
  have := eqvAll_ints a b
  unfold D.eqv
  rw [D.pd, D.pd, PyData.eqv]
  exact this
@[simp] theorem eqv_tI {a b : List Int} : D.eqv (.tup (a.map D.int)) (.tup (b.map D.int)) = decide (a = b) := by
  have := eqvAll_ints a b
  unfold D.eqv
  rw [D.pd, D.pd, PyData.eqv]
  exact this
@[simp] theorem dat_lI {a : List Int} : D.dat dmax (.lst (a.map D.int)) = true := by
  show (a.map D.int).all (D.dat 7) = true
  rw [List.all_map, List.all_eq_true]
  intro x _
  rfl
@[simp] theorem dat_tI {a : List Int} : D.dat dmax (.tup (a.map D.int)) = true := by
  show (a.map D.int).all (D.dat 7) = true
  rw [List.all_map, List.all_eq_true]
  intro x _
  rfl
/-- every size in hand is small -/
theorem le_sz {n : Nat} (h : n ≤ 100000) : n ≤ sizeLine := by rw [sizeLine_eq]; omega
theorem lt_sz {n : Nat} (h : n ≤ 100000) : n < sizeLine := by rw [sizeLine_eq]; omega
end Vl

namespace Vl
open PySem PySem.Spec PyProof.Rows L2 Hl
/-! ### expressions that leave all slots as they are, piece by piece -/
structure Ev (e : WE) (ρ : Vn) (S : D → Prop) : Prop where
  h : ∀ K : D → Vn → Prop, (∀ d, S d → K d ρ) → e ρ K
structure EvL (u : WA) (ρ : Vn) (n : Nat) (S : D → Prop) : Prop where
  h : ∀ K : List AI → Vn → Prop, (∀ ds : List D, ds.length = n → (∀ d ∈ ds, S d) → K (ds.map AI.d) ρ) → u ρ K
variable {ρ : Vn} {S S' : D → Prop} {e e1 e2 e3 e4 : WE} {u : WA} {n : Nat}
theorem Ev.imp (h : Ev e ρ S) (i : ∀ d, S d → S' d) : Ev e ρ S' := ⟨fun K k => h.h K fun d hd => k d (i d hd)⟩
theorem shN_ds {ds : List D} {k : List D → Prop} : shN (ds.map AI.d) k ↔ k ds := by
  induction ds generalizing k with
  | nil => exact Iff.rfl
  | cons d ds ih =>
    show shN (ds.map AI.d) (fun r => k (d :: r)) ↔ k (d :: ds)
    exact ih
theorem rsN_ds {ds : List D} {k : List D → Prop} : rsN ρ (ds.map AI.d) k ↔ k ds := by
  induction ds generalizing k with
  | nil => exact Iff.rfl
  | cons d ds ih =>
    show rsN ρ (ds.map AI.d) (fun r => k (d :: r)) ↔ k (d :: ds)
    exact ih
theorem EvL.nil : EvL wNil ρ 0 S := ⟨fun K k => k [] rfl (fun _ h => by cases h)⟩
theorem EvL.cons (h : Ev e ρ S) (h' : EvL u ρ n S) : EvL (wCons (wOf e) u) ρ (n + 1) S := ⟨fun K k => h.h _ fun d hd => h'.h _ fun ds hl ha => k (d :: ds) (by simp [hl]) fun x hx => (List.mem_cons.1 hx).elim (fun e => e ▸ hd) (ha x)⟩
theorem Ev.var {i : Nat} {d : D} (h : ρ.getD i .no = .val d) (hs : S d) : Ev (wVar i) ρ S := ⟨fun K k => by unfold wVar; rw [h]; exact k d hs⟩
theorem Ev.cst {d : D} (hs : S d) : Ev (wC d) ρ S := ⟨fun K k => k d hs⟩
theorem Ev.tup4 {S1 S2 S3 S4 : D → Prop} (h1 : Ev e1 ρ S1) (h2 : Ev e2 ρ S2) (h3 : Ev e3 ρ S3) (h4 : Ev e4 ρ S4) (hs : ∀ a b c d, S1 a → S2 b → S3 c → S4 d → S (.tup [a, b, c, d])) : Ev (wTup (wCons (wOf e1) (wCons (wOf e2) (wCons (wOf e3) (wCons (wOf e4) wNil))))) ρ S := ⟨fun K k =>
  h1.h _ fun a ha => h2.h _ fun b hb => h3.h _ fun c hc => h4.h _ fun d hd => ⟨le_sz (by simp), k _ (hs a b c d ha hb hc hd)⟩⟩
theorem Ev.lst (h : EvL u ρ n S) (hn : n ≤ 100000) (hs : ∀ l : List D, l.length = n → (∀ d ∈ l, S d) → S' (.lst l)) : Ev (wFz (wLst u)) ρ S' := ⟨fun K k => h.h _ fun ds hl ha => by
  show shN (ds.map AI.d) _
  rw [shN_ds]
  exact ⟨le_sz (by omega), k _ (hs ds hl ha)⟩⟩
theorem Ev.catV {i : Nat} {L : List D} {N : Nat} (hi : ρ.getD i .no = .val (.lst L)) (hL : L.length ≤ N) (h : EvL u ρ n S) (hn : N + n ≤ 100000) (hs : ∀ l : List D, l.length = n → (∀ d ∈ l, S d) → S' (.lst (L ++ l))) : Ev (wOp gAdd (wSl i) (wOf (wFz (wLst u)))) ρ S' := ⟨fun K k => by
  unfold wOp wSl
  rw [hi]
  refine h.h _ fun ds hl ha => ?_
  rw [shN_ds]
  refine ⟨le_sz (by omega), ?_⟩
  show cRd (ρ.getD i .no) _
  rw [hi]
  exact ⟨le_sz (by omega), k _ (hs ds hl ha)⟩⟩
theorem mul_small {i j : Int} (hi : i.natAbs < 2 ^ 64) (hj : j.natAbs < 2 ^ 64) : CMulW i j := wide_mul hi hj (by omega) (by omega) (by omega)
@[simp] theorem eqv_bl {a b : Bool} : D.eqv (.bl a) (.bl b) = decide (a = b) := by cases a <;> cases b <;> rfl
theorem div_small {i j : Int} (h : 0 < j) (hj : j < 2 ^ 64) : CDivW i j := wide_div (b := 64) h (by omega) (by omega) (by omega)
theorem seq_ev {D' : EV} {z : WS} {i : Nat} (h : Ev e ρ S) (k : ∀ d, S d → z D' (ρ.set i (.val d))) : wSeq (wSet e (gV i)) z D' ρ := h.h _ fun d hd => k d hd
theorem set_ev {D' : EV} {i : Nat} (h : Ev e ρ S) (k : ∀ d, S d → D'.nx (ρ.set i (.val d))) : wSet e (gV i) D' ρ := h.h _ fun d hd => k d hd
theorem par2_ev {D' : EV} {z : WS} {i j : Nat} (h : Ev e1 ρ S) (h' : Ev e2 ρ S') (k : ∀ a b, S a → S' b → z D' ((ρ.set i (.val a)).set j (.val b))) : wSeq (wPar2 i j (wQc (wQv e1) (wQc (wQv e2) wQn))) z D' ρ := h.h _ fun a ha => h'.h _ fun b hb => k a b ha hb
theorem if_ev {D' : EV} {c : WT} {w z : WS} {b : Bool} (h : ∀ K : Bool → Vn → Prop, K b ρ → c ρ K) (k1 : b = true → w D' ρ) (k2 : b = false → z D' ρ) : wIf c w z D' ρ := h _ ⟨k1, k2⟩
theorem seq_if {D' : EV} {c : WT} {w z y : WS} {b : Bool} (h : ∀ K : Bool → Vn → Prop, K b ρ → c ρ K) (k1 : b = true → w { D' with nx := y D' } ρ) (k2 : b = false → z { D' with nx := y D' } ρ) : wSeq (wIf c w z) y D' ρ := h _ ⟨k1, k2⟩
theorem seq_ifd {D' : EV} {c : WT} {w z y : WS} {P : Bool → Prop} (h : ∀ K : Bool → Vn → Prop, (∀ b, P b → K b ρ) → c ρ K) (k1 : P true → w { D' with nx := y D' } ρ) (k2 : P false → z { D' with nx := y D' } ρ) : wSeq (wIf c w z) y D' ρ := h _ fun b hb => ⟨fun e => by subst e; exact k1 hb, fun e => by subst e; exact k2 hb⟩
/-! tests that answer one thing -/
def Tv (c : WT) (ρ : Vn) (b : Bool) : Prop := ∀ K : Bool → Vn → Prop, K b ρ → c ρ K
theorem Tv.or_f {w u : WT} {b : Bool} (h : Tv w ρ false) (h' : Tv u ρ b) : Tv (wOr w u) ρ b := fun K k => h _ ⟨fun z => (by cases z), fun _ => h' K k⟩
theorem Tv.or_t {w u : WT} (h : Tv w ρ true) : Tv (wOr w u) ρ true := fun K k => h _ ⟨fun _ => k, fun z => by cases z⟩
theorem Tv.and_t {w u : WT} {b : Bool} (h : Tv w ρ true) (h' : Tv u ρ b) : Tv (wAnd w u) ρ b := fun K k => h _ ⟨fun _ => h' K k, fun z => by cases z⟩
theorem Tv.and_f {w u : WT} (h : Tv w ρ false) : Tv (wAnd w u) ρ false := fun K k => h _ ⟨fun z => (by cases z), fun _ => k⟩
/-! calls, argument by argument -/
def EvA (u : WA) (ρ : Vn) (as : List AI) : Prop := ∀ K : List AI → Vn → Prop, K as ρ → u ρ K
theorem EvA.nil : EvA wNil ρ [] := fun K k => k
theorem EvA.of {as : List AI} {d : D} (h : Ev e ρ (· = d)) (h' : EvA u ρ as) : EvA (wCons (wOf e) u) ρ (.d d :: as) := fun K k => h.h _ fun x hx => by subst hx; exact h' _ k
theorem EvA.sl {as : List AI} {i : Nat} {d : D} (h : ρ.getD i .no = .val d) (h' : EvA u ρ as) : EvA (wCons (wSl i) u) ρ (.sl i :: as) := fun K k => by
  unfold wCons wSl
  rw [h]
  exact h' _ k
theorem Ev.call {W : WF1} {dd ds : List D} {as : List AI} (ha : EvA u ρ as) (hr : ∀ k : List D → Prop, k ds → rsN ρ as k) (hW : ∀ Q : D → Prop, (∀ r, S r → Q r) → W (ds ++ dd) Q) (hf : ∀ r, S r → r.free = true) : Ev (wCall W dd u) ρ S := ⟨fun K k => ha _ (hr _ (hW _ fun r hs => ⟨fun _ => hf r hs, k r hs⟩))⟩
theorem Ev.op {g : G2} {S1 S2 : D → Prop} (h1 : Ev e1 ρ S1) (h2 : Ev e2 ρ S2) (hg : ∀ a b, S1 a → S2 b → ∀ K : D → Prop, (∀ d, S d → K d) → g a b K) : Ev (wOp g (wOf e1) (wOf e2)) ρ S := ⟨fun K k =>
  h1.h _ fun a ha => h2.h _ fun b hb => hg a b ha hb _ fun d hd => k d hd⟩
theorem Ev.nilT (h : S (.tup [])) : Ev (wTup wNil) ρ S := ⟨fun K k => ⟨le_sz (by simp), k _ h⟩⟩
theorem Tv.tst {b : Bool} (h : Ev e ρ (· = .bl b)) : Tv (wTst e) ρ b := fun K k => h.h _ fun d hd => by subst hd; exact k
theorem seq_ifn {D' : EV} {c : WT} {w y : WS} (h : ∀ K : Bool → Vn → Prop, K false ρ → c ρ K) (k : y D' ρ) : wSeq (wIf c w wNext) y D' ρ := h _ ⟨fun e => (by cases e), fun _ => k⟩
end Vl

namespace Vl
open PySem PySem.Spec PyProof.Rows L2 Hl
/-! ### isinstance(x, (A, B, ..)): classes of the text -/
@[simp] def wIsiOs (cs ds : List Str) (w : WO) : WE := fun ρ Q => w ρ fun a ρ1 => rs1 ρ1 a fun d => d.kn cs = true ∧ Q (.bl (ds.any fun c => d.isCl c)) ρ1
def tRefs : List (Str × Addr) → TA
  | [] => tNil
  | c :: Cs => tCons (tC (.ref c.2)) (tRefs Cs)
theorem tRefs_run : ∀ {Cs : List (Str × Addr)} {σ : L2.St} {H : Hp} {Q : List V → Hp → Prop}, Q (Cs.map fun (c : Str × Addr) => V.ref c.2) H → tRefs Cs σ H Q
  | [], _, _, _, h => h
  | c :: Cs, σ, H, Q, h => tRefs_run (Cs := Cs) (Q := fun vs H2 => Q (V.ref c.2 :: vs) H2) h
theorem refs_cls : ∀ {Cs : List (Str × Addr)}, Paired ClsV (Cs.map fun (c : Str × Addr) => V.ref c.2) (Cs.map fun (c : Str × Addr) => Value.ref c.2)
  | [] => .nil
  | c :: Cs => .cons (.own c.2) refs_cls
theorem kitAny_refs {K : PySem.W.Frag} {t : Value} {f : Str → Bool} : ∀ {Cs : List (Str × Addr)}, (∀ c ∈ Cs, PySem.W.kitOne K t (.ref c.2) = some (f c.1)) → PySem.W.kitAny K t (Cs.map fun (c : Str × Addr) => Value.ref c.2) = some ((Cs.map (·.1)).any f)
  | [], _ => rfl
  | c :: Cs, h => by
    have h1 := h c (List.mem_cons_self ..)
    have h2 := kitAny_refs (Cs := Cs) (f := f) fun U hU => h U (List.mem_cons_of_mem _ hU)
    rw [List.map_cons]
    show (match PySem.W.kitOne K t (.ref c.2) with | some true => some true | some false => PySem.W.kitAny K t (Cs.map fun (c : Str × Addr) => Value.ref c.2) | none => none) = _
    rw [h1, List.map_cons, List.any_cons]
    cases f c.1 with
    | true => rfl
    | false => exact h2
section
variable {Γ : Gx} {X : Cx} {e : Expr} {te : TE} {we : WO} {x : Str} {p pos : Pos}
theorem ve_isiOs {Cs : List (Str × Addr)} {cs : List Str} {x1 : Nat} {tpos : Pos} {es : List Expr} (hK : X.K = Γ.K) (h : VO Γ X e te we) (h2 : PA X es (tRefs Cs)) (hz : Cs.length ≤ 8) (hg : Gl X "isinstance") (hm : X.mg "isinstance" = none)
    (hI : ∀ c ∈ cs, ∀ C, Γ.mg c = some (.ref C) → IsiO Γ.K C) (hB : ∀ c ∈ Cs, ∀ S ∈ bnames, PySem.W.kitOne Γ.K (.type S) (.ref c.2) = some false) (hC : ∀ c ∈ Cs, ∀ c' ∈ cs, ∀ C', Γ.mg c' = some (.ref C') → PySem.W.kitOne Γ.K (.ref C') (.ref c.2) = some (decide (c' = c.1)))
    (he : starEach (e :: [.Tuple es x1 tpos]) X.env = (false, eval e X.env) :: starEach [.Tuple es x1 tpos] X.env := by rfl) (he2 : starEach [.Tuple es x1 tpos] X.env = (false, eval (.Tuple es x1 tpos) X.env) :: starEach [] X.env := by rfl) (hpl : (backTo pos (starEach [.Tuple es x1 tpos] X.env)).any (·.1) = false := by rfl) :
    VE Γ X (.Call (.Name "isinstance" p) [e, .Tuple es x1 tpos] [] pos) (tCB (rIsiT Γ.K) (tCons te (tCons (tTup (tRefs Cs)) tNil))) (wIsiOs cs (Cs.map (·.1)) we) :=
  ⟨pe_callB (by rw [← hK]; exact call_isiT) hg hm (by decide +kernel) (pa_cons h.pe (pa_cons (pe_tup h2) pa_nil he2) he) (by decide) (by decide) he hpl, ⟨fun {T σ ρ Q Q'} S hw q => h.se.h S hw fun v T1 a ρ1 S1 e1 r1 q1 => by
    refine tRefs_run (Cs := Cs) ⟨by rw [List.length_map, sizeLine_eq]; omega, fun tp n => ?_⟩
    have g := Gr.new (o := .tup (Cs.map fun (c : Str × Addr) => V.ref c.2)) S1.ok n
    have S2 := S1.grow g
    obtain ⟨d, r, ht, q1⟩ := S2.rs1 (r1.ext g.ext) q1
    rcases ro_kn hI S2.ok r ht with ⟨hn, S, hS, tS, ty⟩ | ⟨c, fs, C, rfl, hc, m, ty⟩
    · have hd : ∀ c, d.isCl c = false := fun c => by cases d <;> first | rfl | cases hn
      exact ⟨v, tp, _, .type S, _, _, rfl, upd_same, refs_cls, ty, kitAny_refs (f := fun c => d.isCl c) fun c hc => by rw [hB c hc S hS, hd], q (.bl _) _ _ ρ1 S2 (e1.trans g.ext) (.bl _) q1⟩
    · exact ⟨v, tp, _, .ref C, _, _, rfl, upd_same, refs_cls, ty, kitAny_refs (f := fun c' => (D.obj c fs).isCl c') fun c' hc' => hC c' hc' c hc C m, q (.bl _) _ _ ρ1 S2 (e1.trans g.ext) (.bl _) q1⟩⟩⟩
end
/-- two classes of the text, neither the other's -/
theorem kit_sub {K : PySem.W.Frag} {C' C : Addr} (h4 : PySem.W.mroIn K C (.type "object") = some true) (ht : PySem.W.typeIn K (.ref C) = some (.type "type")) (hs : PySem.W.subIn K (.ref C) (.ref C) = some true) (h : PySem.W.subIn K (.ref C') (.ref C) = some false) : PySem.W.kitOne K (.ref C') (.ref C) = some false := by
  unfold PySem.W.kitOne
  by_cases e : C' = C
  · subst e
    rw [hs] at h
    cases h
  · have ne : ((Value.ref C' : Value) == .ref C) = false := by
      rw [beq_eq_false_iff_ne]
      intro z
      injection z with z
      exact e z
    rw [ne, if_neg Bool.false_ne_true]
    have hb : ((PySem.W.clsIn K C).isSome && PySem.W.typeIn K (.ref C) == some (.type "type")) = true := by
      unfold PySem.W.mroIn at h4
      cases e : PySem.W.clsIn K C with
      | none => rw [e] at h4; cases h4
      | some cd => rw [ht]; rfl
    show (if ((PySem.W.clsIn K C).isSome && PySem.W.typeIn K (.ref C) == some (.type "type")) = true then PySem.W.subIn K (.ref C') (.ref C) else none) = some false
    rw [if_pos hb]
    exact h
end Vl

namespace K78
open PySem PySem.Spec PyProof.Rows L2 Hl Vl
def W_is_integer : WF1 := wDef 1 1
  (wRet (wAndV (wIsiT ["Numbers", "Thin"] [.int] (wSl 0)) (wUn gNot (wIsiT ["Numbers", "Thin"] [.bool] (wSl 0)))))
def W_is_number : WF1 := wDef 2 2
  (wRet (wAndV (wCall W_is_integer [] (wCons (wSl 0) wNil)) (wAndV (wOp gGe (wSl 0) (wOf (wC (.int 0)))) (wOrV (wOp gIsN (wSl 1) (wOf (wC .non))) (wOp gLe (wSl 0) (wSl 1))))))
def W_comers : WF1 := wDef 2 3
  (wRet (wCB gTuple (wCons (wOf (wFz (wLc (wIt (wOf (wOp gIx (wSl 0) (wSl 1)))) (gV 2) (wTst (wOp (gInP true) (wSl 2) (wOf (wOp gIx (wSl 0) (wOf (wOp gSub (wSl 1) (wOf (wC (.int 1))))))))) (wVar 2) [2]))) wNil)))
def W_in_both : WF1 := wDef 2 3
  (wRet (wCB gTuple (wCons (wOf (wFz (wLc (wIt (wSl 0)) (gV 2) (wTst (wOp (gInP false) (wSl 2) (wSl 1))) (wVar 2) [2]))) wNil)))
def W_lot_without : WF1 := wDef 2 4
  (wRet (wCB gTuple (wCons (wOf (wFz (wLc (wIt (wSl 0)) (gV 2) (wNot (wTru (wOf (wCB gAny (wCons (wOf (wFz (wLc (wIt (wSl 1)) (gV 3) wYes (wOp (gInP false) (wSl 2) (wSl 3)) [3]))) wNil))))) (wVar 2) [2]))) wNil)))
def W_line_from_L1 : WS :=
  (wDput 8 (wC (.bl true)) (wVar 14))
def W_line_from_L2 : WS :=
  (wSeq (wSet (wCall W_in_both [] (wCons (wSl 7) (wCons (wOf (wOp gIx (wSl 0) (wOf (wOp gAdd (wSl 11) (wOf (wC (.int 1))))))) wNil))) (gV 12))
  (wSeq (wSet (wCall W_comers [] (wCons (wSl 0) (wCons (wOf (wOp gAdd (wSl 11) (wOf (wC (.int 1))))) wNil))) (gV 13))
  (wSeq (wIf (wTst (wOp gGe (wOf (wOp gAdd (wOf (wCB gLen (wCons (wSl 7) wNil))) (wOf (wCB gLen (wCons (wOf (wCall W_in_both [] (wCons (wOf (wOp gIx (wSl 0) (wSl 11))) (wCons (wSl 3) wNil)))) wNil))))) (wOf (wOp gAdd (wOf (wOp gSub (wOf (wFld "g" (wVar 1))) (wSl 5))) (wOf (wC (.int 1)))))))
  (wSeq (wDrop (wApp 10 (wVar 11)))
  (wSet (wOp gAdd (wSl 12) (wOf (wCall (starW 1 W_lot_without) [] (wCons (wSl 13) (wCons (wSl 4) (wCons (wSl 3) (wCons (wSl 8) wNil))))))) (gV 12)))
  (wFor (wIt (wSl 13)) (gV 14)
  W_line_from_L1))
  (wSeq (wSet (wCB gTuple (wCons (wOf (wFz (wCBF fSortedP (wCons (wSl 12) wNil)))) wNil)) (gV 7))
  (wDrop (wApp 9 (wVar 7)))))))
def W_line_from : WF1 := wDef 6 15
  (wSeq (wSet (wOp gAdd (wSl 2) (wOf (wFld "d" (wVar 1)))) (gV 6))
  (wSeq (wIf (wTst (wOp gGe (wSl 6) (wOf (wCB gLen (wCons (wSl 0) wNil)))))
  (wRet (wTup (wCons (wOf (wFz (wLst wNil))) (wCons (wOf (wFz (wLst wNil))) wNil))))
  wNext)
  (wSeq (wParT [7, 8, 9, 10] (wQc (wQv (wCall (starW 1 W_lot_without) [] (wCons (wOf (wOp gIx (wSl 0) (wSl 6))) (wCons (wSl 4) (wCons (wSl 3) wNil))))) (wQc wQd (wQc (wQf (wLst wNil)) (wQc (wQf (wLst wNil)) wQn)))))
  (wSeq (wDrop (wApp 9 (wVar 7)))
  (wSeq (wFor (wRg2 (wCons (wSl 6) (wCons (wOf (wOp gSub (wOf (wCB gLen (wCons (wSl 0) wNil))) (wOf (wC (.int 1))))) wNil))) (gV 11)
  W_line_from_L2)
  (wFrz 10 (wFrz 9 (wRet (wTup (wCons (wOf (wVar 9)) (wCons (wOf (wVar 10)) wNil)))))))))))
def W_blanks : WF1 := wDef 6 6
  (wRet (wCB gTuple (wCons (wOf (wOp gIx (wOf (wCall W_line_from [] (wCons (wSl 0) (wCons (wSl 1) (wCons (wSl 2) (wCons (wSl 3) (wCons (wSl 4) (wCons (wSl 5) wNil)))))))) (wOf (wC (.int 0))))) wNil)))
def W_open_words : WF1 := wDef 6 6
  (wRet (wCB gTuple (wCons (wOf (wOp gIx (wOf (wCall W_line_from [] (wCons (wSl 0) (wCons (wSl 1) (wCons (wSl 2) (wCons (wSl 3) (wCons (wSl 4) (wCons (wSl 5) wNil)))))))) (wOf (wC (.int 1))))) wNil)))
def W_share_of : WF1 := wDef 1 1
  (wRet (wIfE (wTru (wSl 0)) (wC (.int 3)) (wC (.int 4))))
def W_most_common : WF1 := wDef 3 3
  (wRet (wOp gSub (wOf (wOp gAdd (wOf (wOp gMul (wOf (wOp gSub (wOf (wCall W_share_of [] (wCons (wSl 2) wNil))) (wOf (wC (.int 2))))) (wSl 0))) (wSl 1))) (wOf (wC (.int 1)))))
def W_least_copies : WF1 := wDef 4 4
  (wRet (wOp gAdd (wOf (wOp gAdd (wOf (wOp gMul (wOf (wCall W_share_of [] (wCons (wSl 3) wNil))) (wSl 0))) (wSl 1))) (wSl 2)))
def W_Numbers_init_L1 : WS :=
  (wIf (wOr (wNot (wTru (wOf (wCall W_is_number [] (wCons (wSl 9) (wCons (wSl 1) wNil)))))) (wTst (wOp gEq (wSl 9) (wOf (wC (.int 0))))))
  wNev
  wNext)
def W_Numbers_init : WN := wInit 7 10 "Numbers"
  (wSeq (wIf (wOr (wNot (wTru (wOf (wCall W_is_number [] (wCons (wSl 1) (wCons (wOf (wC (.int 12))) wNil)))))) (wTst (wOp gEq (wSl 1) (wOf (wC (.int 0))))))
  wNev
  wNext)
  (wSeq (wIf (wNot (wTru (wOf (wCall W_is_number [] (wCons (wSl 2) (wCons (wSl 1) wNil))))))
  wNev
  wNext)
  (wSeq (wIf (wOr (wNot (wTru (wOf (wCall W_is_number [] (wCons (wSl 3) (wCons (wOf (wC (.int 200))) wNil)))))) (wTst (wOp gEq (wSl 3) (wOf (wC (.int 0))))))
  wNev
  wNext)
  (wSeq (wIf (wOr (wNot (wTru (wOf (wCall W_is_number [] (wCons (wSl 4) (wCons (wOf (wCB gMin (wCons (wSl 1) (wCons (wOf (wC (.int 6))) wNil)))) wNil)))))) (wTst (wOp gEq (wSl 4) (wOf (wC (.int 0))))))
  wNev
  wNext)
  (wSeq (wFor (wEnum (wCons (wOf (wTup (wCons (wOf (wVar 5)) (wCons (wOf (wVar 6)) (wCons (wOf (wVar 7)) wNil))))) wNil)) (gTupV 2 (gConsV (gV 8) (gConsV (gV 9) gNilV)))
  W_Numbers_init_L1)
  (wSeq (wFldS 0 "Numbers" "k" (wVar 1))
  (wSeq (wFldS 0 "Numbers" "f" (wVar 2))
  (wSeq (wFldS 0 "Numbers" "d" (wVar 3))
  (wSeq (wFldS 0 "Numbers" "m" (wVar 4))
  (wSeq (wFldS 0 "Numbers" "w1" (wVar 5))
  (wSeq (wFldS 0 "Numbers" "w2" (wVar 6))
  (wFldS 0 "Numbers" "g" (wVar 7)))))))))))))
def W_can_end : WF1 := wDef 1 1
  (wRet (wOp gLe (wOf (wCB gMax (wCons (wOf (wFld "w1" (wVar 0))) (wCons (wOf (wFld "w2" (wVar 0))) (wCons (wOf (wFld "g" (wVar 0))) wNil))))) (wOf (wOp gSub (wOf (wFld "k" (wVar 0))) (wOf (wFld "f" (wVar 0)))))))
def W_least_counts : WF1 := wDef 3 4
  (wSeq (wSet (wOp gAdd (wOf (wOp gAdd (wOf (wOp gMul (wOf (wC (.int 2))) (wSl 0))) (wSl 1))) (wSl 2)) (gV 3))
  (wRet (wTup (wCons (wOf (wOp gAdd (wSl 0) (wSl 3))) (wCons (wOf (wIfE (wTst (wOp gGt (wSl 1) (wOf (wC (.int 0))))) (wVar 3) (wC (.int 1)))) (wCons (wOf (wVar 3)) wNil))))))
def W_least_numbers : WF1 := wDef 4 7
  (wSeq (wSet (wCall W_least_counts [] (wCons (wSl 0) (wCons (wSl 1) (wCons (wSl 3) wNil)))) (gTupV 3 (gConsV (gV 4) (gConsV (gV 5) (gConsV (gV 6) gNilV)))))
  (wRet (wIfE (wTst (wOp gLe (wSl 4) (wOf (wC (.int 12))))) (wMake "Numbers" W_Numbers_init [] (wCons (wOf (wVar 4)) (wCons (wOf (wVar 0)) (wCons (wOf (wVar 2)) (wCons (wOf (wVar 3)) (wCons (wOf (wOp gSub (wSl 4) (wSl 0))) (wCons (wOf (wOp gSub (wSl 4) (wSl 0))) (wCons (wOf (wVar 5)) wNil)))))))) (wC .non))))
def W_near_slack : WF1 := wDef 2 2
  (wRet (wOp gSub (wOf (wOp gSub (wOf (wOp gSub (wOf (wOp gMul (wOf (wC (.int 2))) (wOf (wFld "w1" (wVar 0))))) (wOf (wFld "k" (wVar 0))))) (wSl 1))) (wOf (wFld "f" (wVar 0)))))
def W_far_slack : WF1 := wDef 2 2
  (wRet (wOp gSub (wOf (wOp gSub (wOf (wOp gSub (wOf (wOp gAdd (wOf (wFld "g" (wVar 0))) (wOf (wFld "w2" (wVar 0))))) (wOf (wFld "k" (wVar 0))))) (wSl 1))) (wOf (wFld "f" (wVar 0)))))
def W_mend_slack : WF1 := wDef 2 2
  (wRet (wOp gSub (wOf (wCall W_far_slack [] (wCons (wSl 0) (wCons (wSl 1) wNil)))) (wOf (wFld "m" (wVar 0)))))
def W_is_single : WF1 := wDef 2 2
  (wRet (wAndV (wOp gGt (wOf (wCall W_near_slack [] (wCons (wSl 0) (wCons (wSl 1) wNil)))) (wOf (wC (.int 0)))) (wOrV (wOp gEq (wSl 1) (wOf (wC (.int 0)))) (wOp gGt (wOf (wCall W_far_slack [] (wCons (wSl 0) (wCons (wSl 1) wNil)))) (wOf (wC (.int 0)))))))
def W_is_lasting : WF1 := wDef 2 2
  (wSeq (wIf (wTst (wOp gEq (wSl 1) (wOf (wC (.int 0)))))
  (wRet (wOp gGe (wOf (wFld "w2" (wVar 0))) (wOf (wOp gAdd (wOf (wFld "f" (wVar 0))) (wOf (wFld "m" (wVar 0)))))))
  wNext)
  (wRet (wOp gGe (wOf (wCall W_mend_slack [] (wCons (wSl 0) (wCons (wSl 1) wNil)))) (wOf (wC (.int 0))))))
def W_times_over : WF1 := wDef 2 2
  (wRet (wOp gDiv (wOf (wOp gSub (wOf (wOp gAdd (wSl 0) (wSl 1))) (wOf (wC (.int 1))))) (wSl 1)))
def W_keepers_beyond : WF1 := wDef 1 1
  (wRet (wOp gAdd (wOf (wOp gSub (wOf (wOp gSub (wOf (wFld "w2" (wVar 0))) (wOf (wFld "f" (wVar 0))))) (wOf (wFld "m" (wVar 0))))) (wOf (wC (.int 1)))))
def W_words_to_gone : WF1 := wDef 2 3
  (wSeq (wSet (wCall W_keepers_beyond [] (wCons (wSl 0) wNil)) (gV 2))
  (wSeq (wIf (wTst (wOp gLe (wSl 2) (wOf (wC (.int 0)))))
  (wRet (wC (.int 0)))
  wNext)
  (wSeq (wIf (wTst (wOp gLe (wSl 2) (wSl 1)))
  (wRet (wC (.int 1)))
  wNext)
  (wSeq (wIf (wTru (wOf (wCall W_is_lasting [] (wCons (wSl 0) (wCons (wSl 1) wNil)))))
  (wRet (wC .non))
  wNext)
  (wRet (wOp gAdd (wOf (wOp gMul (wOf (wOp gSub (wOf (wCall W_times_over [] (wCons (wSl 2) (wCons (wSl 1) wNil)))) (wOf (wC (.int 1))))) (wOf (wFld "d" (wVar 0))))) (wOf (wC (.int 1)))))))))
def W_least_triples : WF1 := wDef 5 8
  (wSeq (wSet (wOp gAdd (wOf (wOp gDiv (wOf (wOp gAdd (wOf (wOp gAdd (wSl 0) (wSl 3))) (wSl 1))) (wOf (wC (.int 2))))) (wOf (wC (.int 1)))) (gV 5))
  (wSeq (wIf (wTst (wOp gGt (wSl 5) (wSl 4)))
  (wRet (wTup wNil))
  wNext)
  (wSeq (wIf (wTst (wOp gEq (wSl 3) (wOf (wC (.int 0)))))
  (wRet (wIfE (wTst (wOp gLe (wOf (wOp gAdd (wSl 1) (wSl 2))) (wSl 4))) (wTup (wCons (wOf (wTup (wCons (wOf (wVar 5)) (wCons (wOf (wOp gAdd (wSl 1) (wSl 2))) (wCons (wOf (wC (.int 1))) wNil))))) wNil)) (wTup wNil)))
  wNext)
  (wSeq (wSet (wOp gAdd (wOf (wOp gAdd (wOf (wOp gAdd (wSl 0) (wSl 3))) (wSl 1))) (wSl 2)) (gV 6))
  (wRet (wCB gTuple (wCons (wOf (wFz (wLc (wRg2 (wCons (wOf (wOp gSub (wSl 6) (wSl 4))) (wCons (wOf (wOp gAdd (wSl 4) (wOf (wC (.int 1))))) wNil))) (gV 7) wYes (wTup (wCons (wOf (wVar 5)) (wCons (wOf (wVar 7)) (wCons (wOf (wOp gSub (wSl 6) (wSl 7))) wNil)))) [7]))) wNil)))))))
def W_kinds_of : WF1 := wDef 2 3
  (wSeq (wSetF 2 (wLst wNil))
  (wSeq (wIf (wAnd (wTst (wOp gGt (wSl 1) (wOf (wC (.int 0))))) (wTst (wOp gLe (wOf (wCall W_far_slack [] (wCons (wSl 0) (wCons (wSl 1) wNil)))) (wOf (wC (.int 0))))))
  (wDrop (wApp 2 (wC (.str "far"))))
  wNext)
  (wSeq (wIf (wNot (wTru (wOf (wCall W_is_lasting [] (wCons (wSl 0) (wCons (wSl 1) wNil))))))
  (wDrop (wApp 2 (wC (.str "gone"))))
  wNext)
  (wSeq (wIf (wTst (wOp gLe (wOf (wCall W_near_slack [] (wCons (wSl 0) (wCons (wSl 1) wNil)))) (wOf (wC (.int 0)))))
  (wDrop (wApp 2 (wC (.str "near"))))
  wNext)
  (wRet (wCB gTuple (wCons (wSl 2) wNil)))))))
def W_plain_slack : WF1 := wDef 2 2
  (wRet (wOp gSub (wOf (wOp gSub (wOf (wOp gSub (wOf (wOp gSub (wOf (wOp gAdd (wOf (wFld "g" (wVar 0))) (wOf (wFld "w2" (wVar 0))))) (wOf (wFld "k" (wVar 0))))) (wSl 1))) (wOf (wOp gMul (wOf (wC (.int 2))) (wOf (wFld "f" (wVar 0))))))) (wOf (wFld "m" (wVar 0)))))
def W_plain_lasts : WF1 := wDef 2 2
  (wSeq (wIf (wTst (wOp gEq (wSl 1) (wOf (wC (.int 0)))))
  (wRet (wOp gGe (wOf (wFld "w2" (wVar 0))) (wOf (wOp gAdd (wOf (wOp gMul (wOf (wC (.int 2))) (wOf (wFld "f" (wVar 0))))) (wOf (wFld "m" (wVar 0)))))))
  wNext)
  (wRet (wOp gGe (wOf (wCall W_plain_slack [] (wCons (wSl 0) (wCons (wSl 1) wNil)))) (wOf (wC (.int 0))))))
def W_plain_words : WF1 := wDef 2 3
  (wSeq (wSet (wOp gAdd (wOf (wOp gSub (wOf (wOp gSub (wOf (wFld "w2" (wVar 0))) (wOf (wOp gMul (wOf (wC (.int 2))) (wOf (wFld "f" (wVar 0))))))) (wOf (wFld "m" (wVar 0))))) (wOf (wC (.int 1)))) (gV 2))
  (wSeq (wIf (wTst (wOp gLe (wSl 2) (wOf (wC (.int 0)))))
  (wRet (wC (.int 0)))
  wNext)
  (wSeq (wIf (wTst (wOp gLe (wSl 2) (wSl 1)))
  (wRet (wC (.int 1)))
  wNext)
  (wSeq (wIf (wOr (wTru (wOf (wCall W_plain_lasts [] (wCons (wSl 0) (wCons (wSl 1) wNil))))) (wTst (wOp gEq (wSl 1) (wOf (wC (.int 0))))))
  (wRet (wC .non))
  wNext)
  (wRet (wOp gAdd (wOf (wOp gMul (wOf (wOp gSub (wOf (wOp gDiv (wOf (wOp gSub (wOf (wOp gAdd (wSl 2) (wSl 1))) (wOf (wC (.int 1))))) (wSl 1))) (wOf (wC (.int 1))))) (wOf (wFld "d" (wVar 0))))) (wOf (wC (.int 1)))))))))
def W_plain_reads : WF1 := wDef 3 4
  (wSeq (wSet (wOp gGe (wOf (wOp gAdd (wSl 2) (wOf (wFld "w2" (wVar 0))))) (wOf (wOp gAdd (wOf (wOp gAdd (wOf (wOp gAdd (wOf (wFld "k" (wVar 0))) (wSl 1))) (wOf (wOp gMul (wOf (wC (.int 2))) (wOf (wFld "f" (wVar 0))))))) (wOf (wFld "m" (wVar 0)))))) (gV 3))
  (wRet (wTup (wCons (wOf (wVar 3)) (wCons (wOf (wAndV (wVar 3) (wOrV (wOp gEq (wSl 1) (wOf (wC (.int 0)))) (wOp gGt (wOf (wOp gAdd (wSl 2) (wOf (wFld "g" (wVar 0))))) (wOf (wOp gAdd (wOf (wOp gAdd (wOf (wFld "k" (wVar 0))) (wSl 1))) (wOf (wFld "f" (wVar 0))))))))) wNil)))))
def W_plain_copies : WF1 := wDef 3 3
  (wRet (wOp gAdd (wOf (wOp gAdd (wOf (wOp gMul (wOf (wC (.int 4))) (wSl 0))) (wSl 1))) (wSl 2)))
def W_bound_of : WF1 := wDef 2 2
  (wRet (wOp gAdd (wOf (wOp gAdd (wOf (wFld "k" (wVar 0))) (wSl 1))) (wOf (wFld "f" (wVar 0)))))
def W_sees : WF1 := wDef 3 5
  (wSeq (wSet (wCall W_bound_of [] (wCons (wSl 0) (wCons (wSl 1) wNil))) (gV 3))
  (wSeq (wSet (wOp gGe (wOf (wOp gAdd (wSl 2) (wOf (wFld "w2" (wVar 0))))) (wOf (wOp gAdd (wSl 3) (wOf (wFld "m" (wVar 0)))))) (gV 4))
  (wRet (wTup (wCons (wOf (wVar 4)) (wCons (wOf (wAndV (wVar 4) (wOrV (wOp gEq (wSl 1) (wOf (wC (.int 0)))) (wOp gGt (wOf (wOp gAdd (wSl 2) (wOf (wFld "g" (wVar 0))))) (wSl 3))))) wNil))))))
def W_least_asked : WF1 := wDef 2 5
  (wSeq (wSet (wCall W_bound_of [] (wCons (wSl 0) (wCons (wSl 1) wNil))) (gV 2))
  (wSeq (wSet (wOp gSub (wOf (wOp gAdd (wSl 2) (wOf (wFld "m" (wVar 0))))) (wOf (wFld "w2" (wVar 0)))) (gV 3))
  (wSeq (wSet (wIfE (wTst (wOp gEq (wSl 1) (wOf (wC (.int 0))))) (wVar 3) (wCB gMax (wCons (wSl 3) (wCons (wOf (wOp gSub (wOf (wOp gAdd (wSl 2) (wOf (wC (.int 1))))) (wOf (wFld "g" (wVar 0))))) wNil)))) (gV 4))
  (wRet (wTup (wCons (wOf (wIfE (wTst (wOp gLe (wSl 3) (wOf (wFld "k" (wVar 0))))) (wVar 3) (wC .non))) (wCons (wOf (wIfE (wTst (wOp gLe (wSl 4) (wOf (wFld "k" (wVar 0))))) (wVar 4) (wC .non))) wNil)))))))
def W_sees_with_ends : WF1 := wDef 2 3
  (wSeq (wSet (wOp gIx (wOf (wCall W_least_asked [] (wCons (wSl 0) (wCons (wSl 1) wNil)))) (wOf (wC (.int 1)))) (gV 2))
  (wRet (wAndV (wOp gNotN (wSl 2) (wOf (wC .non))) (wOp gLe (wSl 2) (wOf (wOp gSub (wOf (wFld "k" (wVar 0))) (wOf (wFld "f" (wVar 0)))))))))
def W_Thin_init : WN := wInit 4 5 "Thin"
  (wSeq (wFldS 0 "Thin" "p" (wVar 1))
  (wSeq (wFldS 0 "Thin" "q" (wVar 2))
  (wSeq (wFldS 0 "Thin" "ins" (wVar 3))
  (wFldS 0 "Thin" "others" (wVar 4)))))
def W_only_first : WF1 := wDef 2 3
  (wRet (wCB gTuple (wCons (wOf (wFz (wLc (wIt (wSl 0)) (gV 2) (wTst (wOp (gInP true) (wSl 2) (wSl 1))) (wVar 2) [2]))) wNil)))
def W_far_lots : WF1 := wDef 3 9
  (wSeq (wPar3 3 4 5 (wQc (wQv (wCall W_in_both [] (wCons (wSl 0) (wCons (wSl 1) wNil)))) (wQc (wQv (wSl3 (wOf (wCall W_only_first [] (wCons (wSl 0) (wCons (wSl 1) wNil)))) wPN (wPS (wVar 2)))) (wQc (wQv (wSl3 (wOf (wCall W_only_first [] (wCons (wSl 1) (wCons (wSl 0) wNil)))) wPN (wPS (wVar 2)))) wQn))))
  (wSeq (wSet (wOp gSub (wSl 2) (wOf (wCB gLen (wCons (wSl 4) wNil)))) (gV 6))
  (wSeq (wSet (wCB gTuple (wCons (wOf (wFz (wCBF fSortedP (wCons (wOf (wOp gAdd (wSl 4) (wOf (wSl3 (wSl 3) wPN (wPS (wVar 6)))))) wNil)))) wNil)) (gV 7))
  (wSeq (wSet (wCB gTuple (wCons (wOf (wFz (wCBF fSortedP (wCons (wOf (wOp gAdd (wSl 5) (wOf (wSl3 (wSl 3) (wPS (wOp gSub (wOf (wCB gLen (wCons (wSl 3) wNil))) (wSl 6))) wPN)))) wNil)))) wNil)) (gV 8))
  (wRet (wTup (wCons (wOf (wVar 7)) (wCons (wOf (wVar 8)) wNil))))))))
def W_pairs_within_L1 : WS :=
  (wDrop (wExt 2 (wOf (wFz (wLc (wRg2 (wCons (wSl 3) (wCons (wOf (wCB gMin (wCons (wOf (wCB gLen (wCons (wSl 0) wNil))) (wCons (wOf (wOp gAdd (wOf (wOp gAdd (wSl 3) (wSl 1))) (wOf (wC (.int 1))))) wNil)))) wNil))) (gV 4) wYes (wTup (wCons (wOf (wVar 3)) (wCons (wOf (wVar 4)) wNil))) [4])))))
def W_pairs_within : WF1 := wDef 2 5
  (wSeq (wSetF 2 (wLst wNil))
  (wSeq (wFor (wRg1 (wCons (wOf (wCB gLen (wCons (wSl 0) wNil))) wNil)) (gV 3)
  W_pairs_within_L1)
  (wRet (wCB gTuple (wCons (wSl 2) wNil)))))
def W_thin_of_L1 : WS :=
  (wSeq (wSet (wCall W_far_lots [] (wCons (wOf (wOp gIx (wSl 0) (wSl 4))) (wCons (wOf (wOp gIx (wSl 0) (wSl 5))) (wCons (wOf (wOp gSub (wOf (wCB gLen (wCons (wOf (wOp gIx (wSl 0) (wSl 4))) wNil))) (wSl 1))) wNil)))) (gTupV 2 (gConsV (gV 6) (gConsV (gV 7) gNilV))))
  (wIf (wTst (wOp gLe (wOf (wCB gLen (wCons (wOf (wCall W_in_both [] (wCons (wSl 6) (wCons (wSl 7) wNil)))) wNil))) (wSl 3)))
  (wRet (wMake "Thin" W_Thin_init [] (wCons (wOf (wVar 4)) (wCons (wOf (wVar 5)) (wCons (wOf (wVar 6)) (wCons (wOf (wVar 7)) wNil))))))
  wNext))
def W_thin_of : WF1 := wDef 4 8
  (wSeq (wFor (wIt (wOf (wCall W_pairs_within [] (wCons (wSl 0) (wCons (wSl 2) wNil))))) (gTupV 2 (gConsV (gV 4) (gConsV (gV 5) gNilV)))
  W_thin_of_L1)
  (wRet (wC .non)))
abbrev W__law_heap : WF1 := W_heap
abbrev W__law_draw : WF1 := W_draw
def W__law_pick : WF1 := wDef 2 2
  (wRet (wOp gIx (wSl 1) (wOf (wCall W__law_draw [] (wCons (wSl 0) (wCons (wOf (wCB gLen (wCons (wSl 1) wNil))) wNil))))))
def W__law_mixed_L1 : WS :=
  (wDrop (wApp 3 (wPopAt 2 (wCall W__law_draw [] (wCons (wSl 0) (wCons (wOf (wCB gLen (wCons (wSl 2) wNil))) wNil))))))
def W__law_mixed : WF1 := wDef 2 5
  (wSeq (wPar2 2 3 (wQc (wQf (wCBF fList (wCons (wSl 1) wNil))) (wQc (wQf (wLst wNil)) wQn)))
  (wSeq (wFor (wRg1 (wCons (wOf (wCB gLen (wCons (wSl 1) wNil))) wNil)) (gV 4)
  W__law_mixed_L1)
  (wRet (wCB gTuple (wCons (wSl 3) wNil)))))
def W__law_like_of (W__law_like : WF1) : WF1 := wDef 2 3
  (wSeq (wIf (wTru (wOf (wIsiT ["Numbers", "Thin"] [.tuple] (wSl 1))))
  (wRet (wAndV (wIsiT ["Numbers", "Thin"] [.tuple] (wSl 0)) (wAndV (wOp gEq (wOf (wCB gLen (wCons (wSl 0) wNil))) (wOf (wCB gLen (wCons (wSl 1) wNil)))) (wCB gAll (wCons (wOf (wFz (wLc (wRg1 (wCons (wOf (wCB gLen (wCons (wSl 1) wNil))) wNil)) (gV 2) wYes (wCall W__law_like [] (wCons (wOf (wOp gIx (wSl 0) (wSl 2))) (wCons (wOf (wOp gIx (wSl 1) (wSl 2))) wNil))) [2]))) wNil)))))
  wNext)
  (wSeq (wIf (wTst (wOp gIsN (wSl 1) (wOf (wC .non))))
  (wRet (wOp gIsN (wSl 0) (wOf (wC .non))))
  wNext)
  (wSeq (wIf (wTru (wOf (wIsiT ["Numbers", "Thin"] [.bool] (wSl 1))))
  (wRet (wIfE (wTru (wSl 1)) (wOp gIsB (wSl 0) (wOf (wC (.bl true)))) (wOp gIsB (wSl 0) (wOf (wC (.bl false))))))
  wNext)
  (wSeq (wIf (wTru (wOf (wIsiT ["Numbers", "Thin"] [.int] (wSl 1))))
  (wRet (wAndV (wIsiT ["Numbers", "Thin"] [.int] (wSl 0)) (wAndV (wUn gNot (wIsiT ["Numbers", "Thin"] [.bool] (wSl 0))) (wOp gEq (wSl 0) (wSl 1)))))
  wNext)
  (wRet (wAndV (wIsiT ["Numbers", "Thin"] [.str] (wSl 0)) (wOp gEq (wSl 0) (wSl 1))))))))
def W__law_like_at : Nat → WF1
  | 0 => fun _ _ => False
  | n + 1 => W__law_like_of (W__law_like_at n)
abbrev W__law_like : WF1 := W__law_like_at 4
def W__law_some : WF1 := wDef 3 3
  (wRet (wCB gTuple (wCons (wOf (wFz (wCBF fSortedP (wCons (wOf (wSl3 (wOf (wCall W__law_mixed [] (wCons (wSl 0) (wCons (wSl 1) wNil)))) wPN (wPS (wVar 2)))) wNil)))) wNil)))
def W__law_lacks : WF1 := wDef 2 3
  (wRet (wCB gLen (wCons (wOf (wFz (wLc (wIt (wSl 1)) (gV 2) (wTst (wOp (gInP true) (wSl 2) (wSl 0))) (wVar 2) [2]))) wNil)))
def W__law_gap_L1 : WS :=
  (wSet (wCB gMax (wCons (wSl 2) (wCons (wOf (wCall W__law_lacks [] (wCons (wOf (wOp gIx (wSl 0) (wSl 3))) (wCons (wOf (wOp gIx (wSl 0) (wSl 4))) wNil)))) wNil))) (gV 2))
def W__law_gap_L2 : WS :=
  (wFor (wRg2 (wCons (wSl 3) (wCons (wOf (wCB gMin (wCons (wOf (wCB gLen (wCons (wSl 0) wNil))) (wCons (wOf (wOp gAdd (wOf (wOp gAdd (wSl 3) (wSl 1))) (wOf (wC (.int 1))))) wNil)))) wNil))) (gV 4)
  W__law_gap_L1)
def W__law_gap : WF1 := wDef 2 5
  (wSeq (wSet (wC (.int 0)) (gV 2))
  (wSeq (wFor (wRg1 (wCons (wOf (wCB gLen (wCons (wSl 0) wNil))) wNil)) (gV 3)
  W__law_gap_L2)
  (wRet (wVar 2))))
def W__law_line_L1 : WS :=
  (wSeq (wSet (wFz (wLc (wIt (wOf (wOp gIx (wSl 0) (wOf (wOp gAdd (wSl 11) (wOf (wC (.int 1)))))))) (gV 14) (wTst (wOp (gInP true) (wSl 14) (wOf (wOp gIx (wSl 0) (wSl 11))))) (wVar 14) [14])) (gV 12))
  (wSeq (wSet (wFz (wLc (wIt (wOf (wOp gIx (wSl 0) (wOf (wOp gAdd (wSl 11) (wOf (wC (.int 1)))))))) (gV 14) (wTst (wOp (gInP false) (wSl 14) (wSl 7))) (wVar 14) [14])) (gV 13))
  (wSeq (wIf (wTst (wOp gGt (wOf (wOp gAdd (wOf (wCB gLen (wCons (wSl 7) wNil))) (wOf (wCB gLen (wCons (wOf (wFz (wLc (wIt (wOf (wOp gIx (wSl 0) (wSl 11)))) (gV 14) (wTst (wOp (gInP false) (wSl 14) (wSl 4))) (wVar 14) [14]))) wNil))))) (wOf (wOp gSub (wSl 2) (wSl 6)))))
  (wSeq (wDrop (wApp 9 (wVar 11)))
  (wSet (wOp gAdd (wSl 13) (wOf (wFz (wLc (wIt (wSl 12)) (gV 14) (wTst (wOp (gInP true) (wSl 14) (wSl 10))) (wVar 14) [14])))) (gV 13)))
  (wSet (wOp gAdd (wSl 10) (wSl 12)) (gV 10)))
  (wSeq (wSet (wFz (wCBF fSortedP (wCons (wSl 13) wNil))) (gV 7))
  (wDrop (wApp 8 (wCB gTuple (wCons (wSl 7) wNil))))))))
def W__law_line : WF1 := wDef 7 15
  (wSeq (wSet (wFz (wLc (wIt (wOf (wOp gIx (wSl 0) (wOf (wOp gAdd (wSl 3) (wSl 1)))))) (gV 14) (wAnd (wTst (wOp (gInP true) (wSl 14) (wSl 5))) (wTst (wOp (gInP true) (wSl 14) (wSl 4)))) (wVar 14) [14])) (gV 7))
  (wSeq (wParT [8, 9, 10] (wQc (wQf (wLst (wCons (wOf (wCB gTuple (wCons (wSl 7) wNil))) wNil))) (wQc (wQf (wLst wNil)) (wQc (wQv (wOp gAdd (wOf (wFz (wCBF fList (wCons (wSl 4) wNil)))) (wOf (wFz (wCBF fList (wCons (wSl 5) wNil)))))) wQn))))
  (wSeq (wFor (wRg2 (wCons (wOf (wOp gAdd (wSl 3) (wSl 1))) (wCons (wOf (wOp gSub (wOf (wCB gLen (wCons (wSl 0) wNil))) (wOf (wC (.int 1))))) wNil))) (gV 11)
  W__law_line_L1)
  (wRet (wTup (wCons (wOf (wCB gTuple (wCons (wSl 8) wNil))) (wCons (wOf (wCB gTuple (wCons (wSl 9) wNil))) wNil)))))))
def W__law_slow_L1 : WS :=
  (wSeq (wSet (wOp gSub (wSl 2) (wOf (wCB gSum (wCons (wOf (wIfE (wTst (wOp gGt (wSl 3) (wOf (wC (.int 1))))) (wSl3 (wSl 7) (wPS (wOp gSub (wOf (wC (.int 1))) (wSl 3))) wPN) (wFz (wLst wNil)))) wNil)))) (gV 10))
  (wSeq (wSet (wFz (wLc (wRg1 (wCons (wSl 4) wNil)) (gV 13) (wTst (wOp (gInP true) (wSl 13) (wSl 6))) (wVar 13) [13])) (gV 11))
  (wSeq (wSet (wIfE (wTst (wOp gEq (wOf (wCall W__law_draw [] (wCons (wSl 0) (wCons (wOf (wC (.int 2))) wNil)))) (wOf (wC (.int 0))))) (wCB gMin (wCons (wSl 10) (wCons (wOf (wCB gLen (wCons (wSl 11) wNil))) (wCons (wSl 1) wNil)))) (wCB gMin (wCons (wOf (wCall W__law_draw [] (wCons (wSl 0) (wCons (wOf (wOp gAdd (wOf (wCB gMax (wCons (wOf (wC (.int 0))) (wCons (wSl 10) wNil)))) (wOf (wC (.int 1))))) wNil)))) (wCons (wOf (wCB gLen (wCons (wSl 11) wNil))) (wCons (wSl 1) wNil))))) (gV 12))
  (wSeq (wSet (wCB gTuple (wCons (wOf (wFz (wCBF fSortedP (wCons (wOf (wOp gAdd (wOf (wSl3 (wOf (wCall W__law_mixed [] (wCons (wSl 0) (wCons (wSl 6) wNil)))) (wPS (wVar 12)) wPN)) (wOf (wSl3 (wOf (wCall W__law_mixed [] (wCons (wSl 0) (wCons (wSl 11) wNil)))) wPN (wPS (wVar 12)))))) wNil)))) wNil)) (gV 6))
  (wSeq (wDrop (wApp 7 (wVar 12)))
  (wDrop (wApp 8 (wVar 6))))))))
def W__law_slow : WF1 := wDef 6 14
  (wSeq (wParT [6, 7, 8] (wQc (wQv (wRgT1 (wVar 1))) (wQc (wQf (wLst wNil)) (wQc (wQf (wLst (wCons (wOf (wRgT1 (wVar 1))) wNil))) wQn))))
  (wSeq (wFor (wRg1 (wCons (wSl 5) wNil)) (gV 9)
  W__law_slow_L1)
  (wRet (wCB gTuple (wCons (wSl 8) wNil)))))
def W__law_stairs_L1 : WS :=
  (wSeq (wSet (wCB gMin (wCons (wOf (wOp gSub (wSl 0) (wSl 1))) (wCons (wOf (wOp gAdd (wSl 6) (wOf (wIfE (wTst (wOp gEq (wOf (wOp gMod (wOf (wCB gInt (wCons (wSl 7) wNil))) (wSl 3))) (wOf (wC (.int 0))))) (wVar 2) (wC (.int 0)))))) wNil))) (gV 6))
  (wDrop (wApp 5 (wCB gTuple (wCons (wOf (wOp gAdd (wOf (wFz (wRgL1 (wVar 1)))) (wOf (wFz (wRgL (wOp gAdd (wSl 1) (wSl 6)) (wOp gAdd (wSl 0) (wSl 6))))))) wNil)))))
def W__law_stairs : WF1 := wDef 5 8
  (wSeq (wPar2 5 6 (wQc (wQf (wLst (wCons (wOf (wRgT1 (wVar 0))) wNil))) (wQc (wQv (wC (.int 0))) wQn)))
  (wSeq (wFor (wRg1 (wCons (wSl 4) wNil)) (gV 7)
  W__law_stairs_L1)
  (wRet (wCB gTuple (wCons (wSl 5) wNil)))))
def W__law_never_open_L1 : WS :=
  (wIf (wAnd (wTru (wOf (wCB gAll (wCons (wOf (wFz (wLc (wIt (wSl 13)) (gV 19) wYes (wOp gLe (wOf (wCB gLen (wCons (wOf (wFz (wLc (wIt (wSl 19)) (gV 22) (wTst (wOp (gInP false) (wSl 22) (wOf (wOp gAdd (wSl 16) (wOf (wFz (wLst (wCons (wOf (wVar 18)) wNil)))))))) (wVar 22) [22]))) wNil))) (wSl 5)) [19]))) wNil)))) (wTst (wOp gGt (wOf (wCall W__law_draw [] (wCons (wSl 0) (wCons (wOf (wC (.int 3))) wNil)))) (wOf (wC (.int 0))))))
  (wDrop (wApp 16 (wVar 18)))
  wNext)
def W__law_never_open_L2 : WS :=
  (wSeq (wSet (wCall W__law_draw [] (wCons (wSl 0) (wCons (wOf (wOp gSub (wOf (wCB gLen (wCons (wSl 13) wNil))) (wSl 6))) wNil))) (gV 15))
  (wSeq (wParT [16, 17] (wQc (wQf (wLst wNil)) (wQc (wQv (wFz (wCBF fSortedP (wCons (wOf (wCB gSet (wCons (wOf (wFz (wCBF fSumL (wCons (wOf (wFz (wLc (wIt (wSl 13)) (gV 19) wYes (wFz (wCBF fList (wCons (wSl 19) wNil))) [19]))) (wCons (wOf (wFz (wLst wNil))) wNil))))) wNil))) wNil)))) wQn)))
  (wSeq (wFor (wIt (wOf (wCall W__law_mixed [] (wCons (wSl 0) (wCons (wSl 17) wNil))))) (gV 18)
  W__law_never_open_L1)
  (wSeq (wPar2 19 20 (wQc (wQv (wCB gTuple (wCons (wOf (wFz (wCBF fSortedP (wCons (wSl 16) wNil)))) wNil))) (wQc (wQv (wCall W__law_some [] (wCons (wSl 0) (wCons (wOf (wOp gIx (wSl 13) (wSl 15))) (wCons (wSl 9) wNil))))) wQn)))
  (wSeq (wSet (wCall W__law_line [] (wCons (wSl 13) (wCons (wSl 6) (wCons (wSl 10) (wCons (wSl 15) (wCons (wSl 19) (wCons (wSl 20) (wCons (wSl 3) wNil)))))))) (gV 21))
  (wSeq (wIf (wNot (wTru (wOf (wCall W__law_like [] (wCons (wOf (wTup (wCons (wOf (wCall W_blanks [] (wCons (wSl 13) (wCons (wSl 11) (wCons (wSl 15) (wCons (wSl 19) (wCons (wSl 20) (wCons (wSl 3) wNil)))))))) (wCons (wOf (wCall W_open_words [] (wCons (wSl 13) (wCons (wSl 11) (wCons (wSl 15) (wCons (wSl 19) (wCons (wSl 20) (wCons (wSl 3) wNil)))))))) wNil)))) (wCons (wSl 21) wNil))))))
  (wRet (wC (.bl false)))
  wNext)
  (wIf (wAnd (wTru (wSl 12)) (wTst (wOp gNe (wOf (wOp gIx (wSl 21) (wOf (wC (.int 1))))) (wOf (wTup wNil)))))
  (wRet (wC (.bl false)))
  wNext)))))))
def W__law_never_open : WF1 := wDef 4 23
  (wSeq (wSet (wVar 1) (gTupV 7 (gConsV (gV 4) (gConsV (gV 5) (gConsV (gV 6) (gConsV (gV 7) (gConsV (gV 8) (gConsV (gV 9) (gConsV (gV 10) gNilV)))))))))
  (wSeq (wPar2 11 12 (wQc (wQv (wMake "Numbers" W_Numbers_init [] (wCons (wOf (wVar 4)) (wCons (wOf (wVar 5)) (wCons (wOf (wVar 6)) (wCons (wOf (wVar 7)) (wCons (wOf (wVar 8)) (wCons (wOf (wVar 9)) (wCons (wOf (wVar 10)) wNil))))))))) (wQc (wQv (wOp gGe (wOf (wOp gAdd (wSl 10) (wSl 9))) (wOf (wOp gAdd (wOf (wOp gAdd (wOf (wOp gAdd (wSl 4) (wSl 2))) (wSl 5))) (wSl 3))))) wQn)))
  (wSeq (wSet (wCall W__law_slow [] (wCons (wSl 0) (wCons (wSl 4) (wCons (wSl 2) (wCons (wSl 6) (wCons (wOf (wCB gMin (wCons (wOf (wC (.int 24))) (wCons (wOf (wOp gAdd (wOf (wOp gAdd (wSl 4) (wOf (wC (.int 1))))) (wOf (wCall W__law_draw [] (wCons (wSl 0) (wCons (wOf (wC (.int 8))) wNil)))))) wNil)))) (wCons (wOf (wOp gAdd (wSl 6) (wOf (wCall W__law_draw [] (wCons (wSl 0) (wCons (wOf (wC (.int 12))) wNil)))))) wNil))))))) (gV 13))
  (wSeq (wIf (wTst (wOp gGt (wOf (wCall W__law_gap [] (wCons (wSl 13) (wCons (wSl 6) wNil)))) (wSl 2)))
  (wRet (wC (.bl false)))
  wNext)
  (wSeq (wFor (wRg1 (wCons (wOf (wC (.int 3))) wNil)) (gV 14)
  W__law_never_open_L2)
  (wRet (wC (.bl true))))))))
def W__law_some_open : WF1 := wDef 3 14
  (wSeq (wSet (wVar 0) (gTupV 7 (gConsV (gV 3) (gConsV (gV 4) (gConsV (gV 5) (gConsV (gV 6) (gConsV (gV 7) (gConsV (gV 8) (gConsV (gV 9) gNilV)))))))))
  (wSeq (wIf (wOr (wTst (wOp gGt (wSl 4) (wSl 8))) (wOr (wTst (wOp gGe (wOf (wOp gAdd (wSl 9) (wSl 8))) (wOf (wOp gAdd (wOf (wOp gAdd (wOf (wOp gAdd (wSl 3) (wSl 1))) (wSl 4))) (wSl 2))))) (wOr (wTst (wOp gLt (wOf (wOp gSub (wSl 8) (wSl 4))) (wSl 1))) (wTst (wOp gGt (wOf (wOp gAdd (wSl 3) (wOf (wCB gMin (wCons (wOf (wOp gSub (wSl 3) (wSl 4))) (wCons (wOf (wOp gMul (wOf (wC (.int 3))) (wSl 1))) wNil)))))) (wOf (wC (.int 23))))))))
  (wRet (wC (.bl true)))
  wNext)
  (wSeq (wPar2 10 11 (wQc (wQv (wCall W__law_stairs [] (wCons (wSl 3) (wCons (wSl 4) (wCons (wSl 1) (wCons (wSl 5) (wCons (wOf (wOp gAdd (wOf (wOp gMul (wOf (wC (.int 2))) (wSl 5))) (wOf (wC (.int 1))))) wNil))))))) (wQc (wQv (wMake "Numbers" W_Numbers_init [] (wCons (wOf (wVar 3)) (wCons (wOf (wVar 4)) (wCons (wOf (wVar 5)) (wCons (wOf (wVar 6)) (wCons (wOf (wVar 7)) (wCons (wOf (wVar 8)) (wCons (wOf (wVar 9)) wNil))))))))) wQn)))
  (wSeq (wPar2 12 13 (wQc (wQv (wRgT1 (wVar 4))) (wQc (wQv (wRgT1 (wVar 8))) wQn)))
  (wRet (wAndV (wOp gLe (wOf (wCall W__law_gap [] (wCons (wSl 10) (wCons (wSl 5) wNil)))) (wSl 1)) (wOp gEq (wOf (wSl3 (wOf (wCallK W_open_words [5, 4, 2, 0, 1, 3] (wCons (wSl 12) (wCons (wSl 13) (wCons (wOf (wC (.int 0))) (wCons (wSl 2) (wCons (wSl 11) (wCons (wSl 10) wNil)))))))) wPN (wPS (wC (.int 1))))) (wOf (wTup (wCons (wOf (wVar 5)) wNil))))))))))
def W__law_sums_right_L1 : WS :=
  (wSeq (wSet (wOp gGe (wOf (wOp gAdd (wSl 14) (wSl 7))) (wOf (wOp gAdd (wOf (wOp gAdd (wOf (wOp gAdd (wSl 2) (wSl 1))) (wSl 3))) (wSl 5)))) (gV 15))
  (wSeq (wIf (wAnd (wTru (wOf (wOp gIx (wSl 12) (wOf (wC (.int 0)))))) (wAnd (wTru (wOf (wOp gIx (wSl 12) (wOf (wC (.int 1)))))) (wNot (wTru (wOf (wCall W__law_like [] (wCons (wOf (wCall W_sees [] (wCons (wSl 9) (wCons (wSl 1) (wCons (wSl 14) wNil))))) (wCons (wOf (wTup (wCons (wOf (wVar 15)) (wCons (wOf (wAndV (wVar 15) (wOrV (wOp gEq (wSl 1) (wOf (wC (.int 0)))) (wOp gGt (wOf (wOp gAdd (wSl 14) (wSl 8))) (wOf (wOp gAdd (wOf (wOp gAdd (wSl 2) (wSl 1))) (wSl 3))))))) wNil)))) wNil))))))))
  (wRet (wC (.bl false)))
  wNext)
  (wSeq (wSet (wTup (wCons (wOf (wOp gGe (wOf (wOp gAdd (wSl 14) (wSl 7))) (wOf (wOp gAdd (wOf (wOp gAdd (wOf (wOp gAdd (wSl 2) (wSl 1))) (wOf (wOp gMul (wOf (wC (.int 2))) (wSl 3))))) (wSl 5))))) (wCons (wOf (wAndV (wOp gGe (wOf (wOp gAdd (wSl 14) (wSl 7))) (wOf (wOp gAdd (wOf (wOp gAdd (wOf (wOp gAdd (wSl 2) (wSl 1))) (wOf (wOp gMul (wOf (wC (.int 2))) (wSl 3))))) (wSl 5)))) (wOrV (wOp gEq (wSl 1) (wOf (wC (.int 0)))) (wOp gGt (wOf (wOp gAdd (wSl 14) (wSl 8))) (wOf (wOp gAdd (wOf (wOp gAdd (wSl 2) (wSl 1))) (wSl 3))))))) wNil))) (gV 16))
  (wIf (wAnd (wTru (wOf (wOp gIx (wSl 12) (wOf (wC (.int 2)))))) (wNot (wTru (wOf (wCall W__law_like [] (wCons (wOf (wCall W_plain_reads [] (wCons (wSl 9) (wCons (wSl 1) (wCons (wSl 14) wNil))))) (wCons (wSl 16) wNil)))))))
  (wRet (wC (.bl false)))
  wNext))))
def W__law_sums_right : WF1 := wDef 2 17
  (wSeq (wSet (wVar 0) (gTupV 7 (gConsV (gV 2) (gConsV (gV 3) (gConsV (gV 4) (gConsV (gV 5) (gConsV (gV 6) (gConsV (gV 7) (gConsV (gV 8) gNilV)))))))))
  (wSeq (wPar2 9 10 (wQc (wQv (wMake "Numbers" W_Numbers_init [] (wCons (wOf (wVar 2)) (wCons (wOf (wVar 3)) (wCons (wOf (wVar 4)) (wCons (wOf (wVar 5)) (wCons (wOf (wVar 6)) (wCons (wOf (wVar 7)) (wCons (wOf (wVar 8)) wNil))))))))) (wQc (wQv (wOp gSub (wOf (wOp gSub (wOf (wOp gSub (wOf (wOp gAdd (wSl 8) (wSl 7))) (wSl 2))) (wSl 1))) (wSl 3))) wQn)))
  (wSeq (wSet (wOp gSub (wOf (wOp gSub (wOf (wOp gSub (wOf (wOp gMul (wOf (wC (.int 2))) (wSl 6))) (wSl 2))) (wSl 1))) (wSl 3)) (gV 11))
  (wSeq (wIf (wNot (wTru (wOf (wCall W__law_like [] (wCons (wOf (wTup (wCons (wOf (wCall W_near_slack [] (wCons (wSl 9) (wCons (wSl 1) wNil)))) (wCons (wOf (wCall W_far_slack [] (wCons (wSl 9) (wCons (wSl 1) wNil)))) (wCons (wOf (wCall W_mend_slack [] (wCons (wSl 9) (wCons (wSl 1) wNil)))) (wCons (wOf (wCall W_plain_slack [] (wCons (wSl 9) (wCons (wSl 1) wNil)))) wNil)))))) (wCons (wOf (wTup (wCons (wOf (wVar 11)) (wCons (wOf (wVar 10)) (wCons (wOf (wOp gSub (wSl 10) (wSl 5))) (wCons (wOf (wOp gSub (wOf (wOp gSub (wSl 10) (wSl 5))) (wSl 3))) wNil)))))) wNil))))))
  (wRet (wC (.bl false)))
  wNext)
  (wSeq (wSet (wTup (wCons (wOf (wAndV (wOp gGt (wSl 11) (wOf (wC (.int 0)))) (wOrV (wOp gEq (wSl 1) (wOf (wC (.int 0)))) (wOp gGe (wSl 10) (wOf (wC (.int 1))))))) (wCons (wOf (wIfE (wTst (wOp gGt (wSl 1) (wOf (wC (.int 0))))) (wOp gGe (wSl 10) (wSl 5)) (wOp gGe (wSl 7) (wOf (wOp gAdd (wSl 3) (wSl 5)))))) (wCons (wOf (wIfE (wTst (wOp gGt (wSl 1) (wOf (wC (.int 0))))) (wOp gGe (wSl 10) (wOf (wOp gAdd (wSl 5) (wSl 3)))) (wOp gGe (wSl 7) (wOf (wOp gAdd (wOf (wOp gMul (wOf (wC (.int 2))) (wSl 3))) (wSl 5)))))) wNil)))) (gV 12))
  (wSeq (wIf (wNot (wTru (wOf (wCall W__law_like [] (wCons (wOf (wTup (wCons (wOf (wCall W_is_single [] (wCons (wSl 9) (wCons (wSl 1) wNil)))) (wCons (wOf (wCall W_is_lasting [] (wCons (wSl 9) (wCons (wSl 1) wNil)))) (wCons (wOf (wCall W_plain_lasts [] (wCons (wSl 9) (wCons (wSl 1) wNil)))) wNil))))) (wCons (wSl 12) wNil))))))
  (wRet (wC (.bl false)))
  wNext)
  (wSeq (wSet (wOp gAdd (wOf (wOp gAdd (wOf (wOp gMul (wOf (wFz (wLst (wCons (wOf (wC (.str "far"))) wNil)))) (wOf (wCB gInt (wCons (wOf (wAndV (wOp gGt (wSl 1) (wOf (wC (.int 0)))) (wOp gLt (wSl 10) (wOf (wC (.int 1)))))) wNil))))) (wOf (wOp gMul (wOf (wFz (wLst (wCons (wOf (wC (.str "gone"))) wNil)))) (wOf (wCB gInt (wCons (wOf (wUn gNot (wOp gIx (wSl 12) (wOf (wC (.int 1)))))) wNil))))))) (wOf (wOp gMul (wOf (wFz (wLst (wCons (wOf (wC (.str "near"))) wNil)))) (wOf (wCB gInt (wCons (wOf (wOp gLe (wSl 11) (wOf (wC (.int 0))))) wNil)))))) (gV 13))
  (wSeq (wIf (wNot (wTru (wOf (wCall W__law_like [] (wCons (wOf (wCall W_kinds_of [] (wCons (wSl 9) (wCons (wSl 1) wNil)))) (wCons (wOf (wCB gTuple (wCons (wSl 13) wNil))) wNil))))))
  (wRet (wC (.bl false)))
  wNext)
  (wSeq (wIf (wAnd (wTst (wOp gLe (wOf (wOp gAdd (wSl 5) (wSl 3))) (wOf (wCB gMin (wCons (wSl 2) (wCons (wOf (wC (.int 6))) wNil)))))) (wNot (wTru (wOf (wCall W__law_like [] (wCons (wOf (wCall W_plain_words [] (wCons (wSl 9) (wCons (wSl 1) wNil)))) (wCons (wOf (wCall W_words_to_gone [] (wCons (wOf (wMake "Numbers" W_Numbers_init [] (wCons (wOf (wVar 2)) (wCons (wOf (wVar 3)) (wCons (wOf (wVar 4)) (wCons (wOf (wOp gAdd (wSl 5) (wSl 3))) (wCons (wOf (wVar 6)) (wCons (wOf (wVar 7)) (wCons (wOf (wVar 8)) wNil))))))))) (wCons (wSl 1) wNil)))) wNil)))))))
  (wRet (wC (.bl false)))
  wNext)
  (wSeq (wFor (wIt (wOf (wFz (wLst (wCons (wOf (wC (.int 1))) (wCons (wOf (wVar 7)) (wCons (wOf (wVar 8)) (wCons (wOf (wVar 2)) wNil)))))))) (gV 14)
  W__law_sums_right_L1)
  (wRet (wC (.bl true)))))))))))))
def W__law_borders_right_L1 : WS :=
  (wIf (wAnd (wTst (wOp gGt (wOf (wCB gLen (wCons (wOf (wOp gIx (wSl 8) (wOf (wC (.int 0))))) wNil))) (wSl 1))) (wTst (wOp gNe (wOf (wIsiO ["Numbers", "Thin"] "Thin" (wOf (wCall W_thin_of [] (wCons (wSl 8) (wCons (wSl 1) (wCons (wOf (wC (.int 1))) (wCons (wOf (wCall W_most_common [] (wCons (wSl 1) (wCons (wSl 3) (wCons (wOf (wC (.bl true))) wNil))))) wNil)))))))) (wSl 9))))
  (wRet (wC (.bl false)))
  wNext)
def W__law_borders_right : WF1 := wDef 5 11
  (wSeq (wSet (wOp gAdd (wOf (wOp gAdd (wOf (wOp gMul (wOf (wC (.int 3))) (wSl 1))) (wSl 2))) (wSl 3)) (gV 5))
  (wSeq (wIf (wNot (wTru (wOf (wCall W__law_like [] (wCons (wOf (wTup (wCons (wOf (wCall W_least_copies [] (wCons (wSl 1) (wCons (wSl 2) (wCons (wSl 3) (wCons (wOf (wC (.bl true))) wNil)))))) (wCons (wOf (wCall W_least_copies [] (wCons (wSl 1) (wCons (wSl 2) (wCons (wSl 3) (wCons (wOf (wC (.bl false))) wNil)))))) (wCons (wOf (wCall W_plain_copies [] (wCons (wSl 1) (wCons (wSl 2) (wCons (wSl 3) wNil))))) wNil))))) (wCons (wOf (wTup (wCons (wOf (wVar 5)) (wCons (wOf (wOp gAdd (wSl 5) (wSl 1))) (wCons (wOf (wOp gAdd (wSl 5) (wSl 1))) wNil))))) wNil))))))
  (wRet (wC (.bl false)))
  wNext)
  (wSeq (wIf (wNot (wTru (wOf (wCall W__law_like [] (wCons (wOf (wCall W_least_counts [] (wCons (wSl 1) (wCons (wSl 2) (wCons (wSl 3) wNil))))) (wCons (wOf (wTup (wCons (wOf (wVar 5)) (wCons (wOf (wIfE (wTst (wOp gGt (wSl 2) (wOf (wC (.int 0))))) (wOp gAdd (wOf (wOp gAdd (wOf (wOp gMul (wOf (wC (.int 2))) (wSl 1))) (wSl 2))) (wSl 3)) (wC (.int 1)))) (wCons (wOf (wOp gAdd (wOf (wOp gAdd (wOf (wOp gMul (wOf (wC (.int 2))) (wSl 1))) (wSl 2))) (wSl 3))) wNil))))) wNil))))))
  (wRet (wC (.bl false)))
  wNext)
  (wSeq (wSet (wCall W_least_numbers [] (wCons (wSl 1) (wCons (wSl 2) (wCons (wSl 4) (wCons (wSl 3) wNil))))) (gV 6))
  (wSeq (wIf (wTst (wOp gGt (wSl 5) (wOf (wC (.int 12)))))
  (wRet (wOp gIsN (wSl 6) (wOf (wC .non))))
  wNext)
  (wSeq (wIf (wOr (wNot (wTru (wOf (wIsiO ["Numbers", "Thin"] "Numbers" (wSl 6))))) (wOr (wTst (wOp gNe (wOf (wFld "k" (wVar 6))) (wSl 5))) (wOr (wTst (wOp gNotB (wOf (wCall W_is_single [] (wCons (wSl 6) (wCons (wSl 2) wNil)))) (wOf (wC (.bl true))))) (wOr (wTst (wOp gNotB (wOf (wCall W_is_lasting [] (wCons (wSl 6) (wCons (wSl 2) wNil)))) (wOf (wC (.bl true))))) (wTst (wOp gNotB (wOf (wCall W_can_end [] (wCons (wSl 6) wNil))) (wOf (wC (.bl true)))))))))
  (wRet (wC (.bl false)))
  wNext)
  (wSeq (wIf (wOr (wTst (wOp gNotB (wOf (wCall W_sees_with_ends [] (wCons (wSl 6) (wCons (wSl 2) wNil)))) (wOf (wC (.bl true))))) (wTst (wOp gGt (wOf (wOp gIx (wOf (wCall W_least_asked [] (wCons (wSl 6) (wCons (wSl 2) wNil)))) (wOf (wC (.int 1))))) (wOf (wOp gSub (wSl 5) (wSl 1))))))
  (wRet (wC (.bl false)))
  wNext)
  (wSeq (wIf (wOr (wTst (wOp gEq (wOf (wCall W_least_triples [] (wCons (wSl 5) (wCons (wSl 1) (wCons (wSl 3) (wCons (wSl 2) (wCons (wOf (wOp gSub (wSl 5) (wSl 1))) wNil))))))) (wOf (wTup wNil)))) (wAnd (wTst (wOp gGt (wSl 2) (wOf (wC (.int 0))))) (wAnd (wTst (wOp gGt (wSl 5) (wOf (wC (.int 1))))) (wAnd (wTst (wOp gLt (wSl 1) (wOf (wOp gSub (wSl 5) (wOf (wC (.int 1))))))) (wAnd (wTst (wOp gNe (wOf (wCall W_least_triples [] (wCons (wOf (wOp gSub (wSl 5) (wOf (wC (.int 1))))) (wCons (wSl 1) (wCons (wSl 3) (wCons (wSl 2) (wCons (wOf (wOp gSub (wOf (wOp gSub (wSl 5) (wOf (wC (.int 1))))) (wSl 1))) wNil))))))) (wOf (wTup wNil)))) (wTst (wOp gLe (wSl 3) (wOf (wOp gSub (wSl 5) (wOf (wC (.int 1))))))))))))
  (wRet (wC (.bl false)))
  wNext)
  (wSeq (wSet (wTup (wCons (wOf (wRgT1 (wVar 5))) (wCons (wOf (wRgT (wVar 2) (wOp gAdd (wSl 5) (wSl 2)))) wNil))) (gV 7))
  (wSeq (wFor (wIt (wOf (wFz (wLst (wCons (wOf (wTup (wCons (wOf (wVar 7)) (wCons (wOf (wC (.bl false))) wNil)))) (wCons (wOf (wTup (wCons (wOf (wCB gTuple (wCons (wOf (wFz (wLc (wIt (wSl 7)) (gV 10) wYes (wSl3 (wSl 10) (wPS (wC (.int 1))) wPN) [10]))) wNil))) (wCons (wOf (wC (.bl true))) wNil)))) wNil)))))) (gTupV 2 (gConsV (gV 8) (gConsV (gV 9) gNilV)))
  W__law_borders_right_L1)
  (wRet (wC (.bl true)))))))))))))
def W_law_L1 : WS :=
  (wSeq (wSet (wOp gAdd (wOf (wC (.int 1))) (wOf (wCall W__law_draw [] (wCons (wSl 1) (wCons (wOf (wCall W__law_pick [] (wCons (wSl 1) (wCons (wOf (wFz (wLst (wCons (wOf (wC (.int 5))) (wCons (wOf (wC (.int 9))) (wCons (wOf (wC (.int 12))) wNil)))))) wNil)))) wNil))))) (gV 3))
  (wSeq (wParT [4, 5, 6, 7] (wQc (wQv (wCB gMin (wCons (wSl 3) (wCons (wOf (wCall W__law_pick [] (wCons (wSl 1) (wCons (wOf (wFz (wLst (wCons (wOf (wC (.int 0))) (wCons (wOf (wC (.int 1))) (wCons (wOf (wC (.int 1))) (wCons (wOf (wC (.int 2))) wNil))))))) wNil)))) wNil)))) (wQc (wQv (wCB gMin (wCons (wSl 3) (wCons (wOf (wCall W__law_pick [] (wCons (wSl 1) (wCons (wOf (wFz (wLst (wCons (wOf (wC (.int 0))) (wCons (wOf (wC (.int 1))) (wCons (wOf (wC (.int 1))) (wCons (wOf (wC (.int 2))) (wCons (wOf (wC (.int 3))) wNil)))))))) wNil)))) wNil)))) (wQc (wQv (wOp gAdd (wOf (wC (.int 1))) (wOf (wCall W__law_draw [] (wCons (wSl 1) (wCons (wOf (wCB gMin (wCons (wSl 3) (wCons (wOf (wC (.int 6))) wNil)))) wNil)))))) (wQc (wQv (wOp gAdd (wOf (wC (.int 1))) (wOf (wCall W__law_draw [] (wCons (wSl 1) (wCons (wOf (wC (.int 3))) wNil)))))) wQn)))))
  (wSeq (wPar3 8 9 10 (wQc (wQv (wCall W__law_pick [] (wCons (wSl 1) (wCons (wOf (wFz (wLst (wCons (wOf (wC (.int 1))) (wCons (wOf (wVar 6)) (wCons (wOf (wOp gAdd (wSl 6) (wSl 4))) wNil)))))) wNil)))) (wQc (wQv (wOp gAdd (wOf (wOp gAdd (wSl 3) (wSl 5))) (wSl 4))) (wQc (wQv (wOp gAdd (wOf (wC (.int 1))) (wOf (wCall W__law_draw [] (wCons (wSl 1) (wCons (wSl 3) wNil)))))) wQn))))
  (wSeq (wSet (wCB gMax (wCons (wOf (wC (.int 1))) (wCons (wOf (wCB gMin (wCons (wSl 3) (wCons (wOf (wCall W__law_pick [] (wCons (wSl 1) (wCons (wOf (wFz (wLst (wCons (wOf (wOp gDiv (wSl 9) (wOf (wC (.int 2))))) (wCons (wOf (wOp gAdd (wOf (wOp gDiv (wSl 9) (wOf (wC (.int 2))))) (wOf (wC (.int 1))))) (wCons (wOf (wVar 3)) wNil)))))) wNil)))) wNil)))) wNil))) (gV 11))
  (wSeq (wSet (wCB gMax (wCons (wOf (wC (.int 1))) (wCons (wOf (wCB gMin (wCons (wSl 3) (wCons (wOf (wCall W__law_pick [] (wCons (wSl 1) (wCons (wOf (wFz (wLst (wCons (wOf (wOp gSub (wOf (wOp gAdd (wSl 9) (wSl 8))) (wSl 10))) (wCons (wOf (wOp gSub (wOf (wOp gSub (wOf (wOp gAdd (wSl 9) (wSl 8))) (wSl 10))) (wOf (wC (.int 1))))) (wCons (wOf (wOp gAdd (wOf (wC (.int 1))) (wOf (wCall W__law_draw [] (wCons (wSl 1) (wCons (wSl 3) wNil)))))) wNil)))))) wNil)))) wNil)))) wNil))) (gV 12))
  (wSeq (wSet (wTup (wCons (wOf (wVar 3)) (wCons (wOf (wVar 4)) (wCons (wOf (wVar 7)) (wCons (wOf (wVar 6)) (wCons (wOf (wVar 11)) (wCons (wOf (wVar 10)) (wCons (wOf (wVar 12)) wNil)))))))) (gV 13))
  (wSeq (wIf (wNot (wTru (wOf (wCall W__law_sums_right [] (wCons (wSl 13) (wCons (wSl 5) wNil))))))
  (wRet (wC (.bl false)))
  wNext)
  (wSeq (wIf (wAnd (wTst (wOp gGt (wSl 5) (wOf (wC (.int 0))))) (wOr (wNot (wTru (wOf (wCall W__law_never_open [] (wCons (wSl 1) (wCons (wSl 13) (wCons (wSl 5) (wCons (wSl 8) wNil)))))))) (wNot (wTru (wOf (wCall W__law_some_open [] (wCons (wSl 13) (wCons (wSl 5) (wCons (wSl 8) wNil)))))))))
  (wRet (wC (.bl false)))
  wNext)
  (wIf (wNot (wTru (wOf (wCall W__law_borders_right [] (wCons (wSl 1) (wCons (wOf (wCall W__law_draw [] (wCons (wSl 1) (wCons (wOf (wC (.int 4))) wNil)))) (wCons (wOf (wCall W__law_draw [] (wCons (wSl 1) (wCons (wOf (wC (.int 4))) wNil)))) (wCons (wOf (wOp gAdd (wOf (wC (.int 1))) (wOf (wCall W__law_draw [] (wCons (wSl 1) (wCons (wOf (wC (.int 6))) wNil)))))) (wCons (wSl 7) wNil)))))))))
  (wRet (wC (.bl false)))
  wNext)))))))))
def W_law : WF1 := wDef 1 14
  (wSeq (wSet (wCall W__law_heap [] (wCons (wSl 0) wNil)) (gV 1))
  (wSeq (wFor (wRg1 (wCons (wOf (wC (.int 3))) wNil)) (gV 2)
  W_law_L1)
  (wRet (wAndV (wCall W__law_sums_right [] (wCons (wOf (wTup (wCons (wOf (wC (.int 5))) (wCons (wOf (wC (.int 1))) (wCons (wOf (wC (.int 2))) (wCons (wOf (wC (.int 2))) (wCons (wOf (wC (.int 5))) (wCons (wOf (wC (.int 4))) (wCons (wOf (wC (.int 4))) wNil))))))))) (wCons (wOf (wC (.int 1))) wNil))) (wCall W__law_borders_right [] (wCons (wSl 1) (wCons (wOf (wC (.int 1))) (wCons (wOf (wC (.int 1))) (wCons (wOf (wC (.int 2))) (wCons (wOf (wC (.int 2))) wNil))))))))))
end K78

namespace K78
open PySem PySem.Spec PyProof.Rows L2 Hl Vl
def top (i : Nat) : Stmt := PySem.Challenge.pw_piecesapart_k78_whole_one_need_three_bor.main.body.getD i (.Pass ⟨0, 0, 0, 0⟩)
abbrev s_is_integer : Stmt := top 1
abbrev N_is_integer : List Str := ["value"]
theorem sc_is_integer : FnScope N_is_integer ["value"] (defScope s_is_integer) := ⟨rfl, rfl, rfl, by decide +kernel, rfl, by decide +kernel, by decide +kernel⟩
abbrev s_is_number : Stmt := top 2
abbrev N_is_number : List Str := ["value", "most"]
theorem sc_is_number : FnScope N_is_number ["value", "most"] (defScope s_is_number) := ⟨rfl, rfl, rfl, by decide +kernel, rfl, by decide +kernel, by decide +kernel⟩
abbrev s_comers : Stmt := top 4
abbrev N_comers : List Str := ["course", "i", "house"]
theorem sc_comers : FnScope N_comers ["course", "i"] (defScope s_comers) := ⟨rfl, rfl, rfl, by decide +kernel, rfl, by decide +kernel, by decide +kernel⟩
abbrev s_in_both : Stmt := top 5
abbrev N_in_both : List Str := ["one", "other", "house"]
theorem sc_in_both : FnScope N_in_both ["one", "other"] (defScope s_in_both) := ⟨rfl, rfl, rfl, by decide +kernel, rfl, by decide +kernel, by decide +kernel⟩
abbrev s_lot_without : Stmt := top 6
abbrev N_lot_without : List Str := ["lot", "others", "house", "other"]
theorem sc_lot_without : FnScope N_lot_without ["lot", "others"] (defScope s_lot_without) := ⟨rfl, rfl, rfl, by decide +kernel, rfl, by decide +kernel, by decide +kernel⟩
abbrev s_line_from : Stmt := top 8
abbrev N_line_from : List Str := ["course", "numbers", "p", "liars", "keepers", "need", "start", "blank", "late", "lots", "gates", "i", "stay", "fresh", "house"]
theorem sc_line_from : FnScope N_line_from ["course", "numbers", "p", "liars", "keepers", "need"] (defScope s_line_from) := ⟨rfl, rfl, rfl, by decide +kernel, rfl, by decide +kernel, by decide +kernel⟩
abbrev s_blanks : Stmt := top 9
abbrev N_blanks : List Str := ["course", "numbers", "p", "liars", "keepers", "need"]
theorem sc_blanks : FnScope N_blanks ["course", "numbers", "p", "liars", "keepers", "need"] (defScope s_blanks) := ⟨rfl, rfl, rfl, by decide +kernel, rfl, by decide +kernel, by decide +kernel⟩
abbrev s_open_words : Stmt := top 10
abbrev N_open_words : List Str := ["course", "numbers", "p", "liars", "keepers", "need"]
theorem sc_open_words : FnScope N_open_words ["course", "numbers", "p", "liars", "keepers", "need"] (defScope s_open_words) := ⟨rfl, rfl, rfl, by decide +kernel, rfl, by decide +kernel, by decide +kernel⟩
abbrev s_share_of : Stmt := top 15
abbrev N_share_of : List Str := ["is_signed"]
theorem sc_share_of : FnScope N_share_of ["is_signed"] (defScope s_share_of) := ⟨rfl, rfl, rfl, by decide +kernel, rfl, by decide +kernel, by decide +kernel⟩
abbrev s_most_common : Stmt := top 16
abbrev N_most_common : List Str := ["f", "parts", "is_signed"]
theorem sc_most_common : FnScope N_most_common ["f", "parts", "is_signed"] (defScope s_most_common) := ⟨rfl, rfl, rfl, by decide +kernel, rfl, by decide +kernel, by decide +kernel⟩
abbrev s_least_copies : Stmt := top 17
abbrev N_least_copies : List Str := ["f", "spread", "parts", "is_signed"]
theorem sc_least_copies : FnScope N_least_copies ["f", "spread", "parts", "is_signed"] (defScope s_least_copies) := ⟨rfl, rfl, rfl, by decide +kernel, rfl, by decide +kernel, by decide +kernel⟩
abbrev s_Numbers_init : Stmt := inClass (top 22) 0
abbrev N_Numbers_init : List Str := ["self", "k", "f", "d", "m", "w1", "w2", "g", "place", "many"]
theorem sc_Numbers_init : FnScope N_Numbers_init ["self", "k", "f", "d", "m", "w1", "w2", "g"] (defScope s_Numbers_init) := ⟨rfl, rfl, rfl, by decide +kernel, rfl, by decide +kernel, by decide +kernel⟩
abbrev s_can_end : Stmt := top 23
abbrev N_can_end : List Str := ["numbers"]
theorem sc_can_end : FnScope N_can_end ["numbers"] (defScope s_can_end) := ⟨rfl, rfl, rfl, by decide +kernel, rfl, by decide +kernel, by decide +kernel⟩
abbrev s_least_counts : Stmt := top 25
abbrev N_least_counts : List Str := ["f", "spread", "m", "both"]
theorem sc_least_counts : FnScope N_least_counts ["f", "spread", "m"] (defScope s_least_counts) := ⟨rfl, rfl, rfl, by decide +kernel, rfl, by decide +kernel, by decide +kernel⟩
abbrev s_least_numbers : Stmt := top 26
abbrev N_least_numbers : List Str := ["f", "spread", "d", "m", "k", "g", "r"]
theorem sc_least_numbers : FnScope N_least_numbers ["f", "spread", "d", "m"] (defScope s_least_numbers) := ⟨rfl, rfl, rfl, by decide +kernel, rfl, by decide +kernel, by decide +kernel⟩
abbrev s_near_slack : Stmt := top 28
abbrev N_near_slack : List Str := ["numbers", "spread"]
theorem sc_near_slack : FnScope N_near_slack ["numbers", "spread"] (defScope s_near_slack) := ⟨rfl, rfl, rfl, by decide +kernel, rfl, by decide +kernel, by decide +kernel⟩
abbrev s_far_slack : Stmt := top 29
abbrev N_far_slack : List Str := ["numbers", "spread"]
theorem sc_far_slack : FnScope N_far_slack ["numbers", "spread"] (defScope s_far_slack) := ⟨rfl, rfl, rfl, by decide +kernel, rfl, by decide +kernel, by decide +kernel⟩
abbrev s_mend_slack : Stmt := top 30
abbrev N_mend_slack : List Str := ["numbers", "spread"]
theorem sc_mend_slack : FnScope N_mend_slack ["numbers", "spread"] (defScope s_mend_slack) := ⟨rfl, rfl, rfl, by decide +kernel, rfl, by decide +kernel, by decide +kernel⟩
abbrev s_is_single : Stmt := top 31
abbrev N_is_single : List Str := ["numbers", "spread"]
theorem sc_is_single : FnScope N_is_single ["numbers", "spread"] (defScope s_is_single) := ⟨rfl, rfl, rfl, by decide +kernel, rfl, by decide +kernel, by decide +kernel⟩
abbrev s_is_lasting : Stmt := top 32
abbrev N_is_lasting : List Str := ["numbers", "spread"]
theorem sc_is_lasting : FnScope N_is_lasting ["numbers", "spread"] (defScope s_is_lasting) := ⟨rfl, rfl, rfl, by decide +kernel, rfl, by decide +kernel, by decide +kernel⟩
abbrev s_times_over : Stmt := top 33
abbrev N_times_over : List Str := ["many", "spread"]
theorem sc_times_over : FnScope N_times_over ["many", "spread"] (defScope s_times_over) := ⟨rfl, rfl, rfl, by decide +kernel, rfl, by decide +kernel, by decide +kernel⟩
abbrev s_keepers_beyond : Stmt := top 34
abbrev N_keepers_beyond : List Str := ["numbers"]
theorem sc_keepers_beyond : FnScope N_keepers_beyond ["numbers"] (defScope s_keepers_beyond) := ⟨rfl, rfl, rfl, by decide +kernel, rfl, by decide +kernel, by decide +kernel⟩
abbrev s_words_to_gone : Stmt := top 35
abbrev N_words_to_gone : List Str := ["numbers", "spread", "beyond"]
theorem sc_words_to_gone : FnScope N_words_to_gone ["numbers", "spread"] (defScope s_words_to_gone) := ⟨rfl, rfl, rfl, by decide +kernel, rfl, by decide +kernel, by decide +kernel⟩
abbrev s_least_triples : Stmt := top 36
abbrev N_least_triples : List Str := ["k", "f", "m", "spread", "most", "first", "both", "second"]
theorem sc_least_triples : FnScope N_least_triples ["k", "f", "m", "spread", "most"] (defScope s_least_triples) := ⟨rfl, rfl, rfl, by decide +kernel, rfl, by decide +kernel, by decide +kernel⟩
abbrev s_kinds_of : Stmt := top 41
abbrev N_kinds_of : List Str := ["numbers", "spread", "found"]
theorem sc_kinds_of : FnScope N_kinds_of ["numbers", "spread"] (defScope s_kinds_of) := ⟨rfl, rfl, rfl, by decide +kernel, rfl, by decide +kernel, by decide +kernel⟩
abbrev s_plain_slack : Stmt := top 43
abbrev N_plain_slack : List Str := ["numbers", "spread"]
theorem sc_plain_slack : FnScope N_plain_slack ["numbers", "spread"] (defScope s_plain_slack) := ⟨rfl, rfl, rfl, by decide +kernel, rfl, by decide +kernel, by decide +kernel⟩
abbrev s_plain_lasts : Stmt := top 44
abbrev N_plain_lasts : List Str := ["numbers", "spread"]
theorem sc_plain_lasts : FnScope N_plain_lasts ["numbers", "spread"] (defScope s_plain_lasts) := ⟨rfl, rfl, rfl, by decide +kernel, rfl, by decide +kernel, by decide +kernel⟩
abbrev s_plain_words : Stmt := top 45
abbrev N_plain_words : List Str := ["numbers", "spread", "more"]
theorem sc_plain_words : FnScope N_plain_words ["numbers", "spread"] (defScope s_plain_words) := ⟨rfl, rfl, rfl, by decide +kernel, rfl, by decide +kernel, by decide +kernel⟩
abbrev s_plain_reads : Stmt := top 46
abbrev N_plain_reads : List Str := ["numbers", "spread", "r", "near"]
theorem sc_plain_reads : FnScope N_plain_reads ["numbers", "spread", "r"] (defScope s_plain_reads) := ⟨rfl, rfl, rfl, by decide +kernel, rfl, by decide +kernel, by decide +kernel⟩
abbrev s_plain_copies : Stmt := top 47
abbrev N_plain_copies : List Str := ["f", "spread", "m"]
theorem sc_plain_copies : FnScope N_plain_copies ["f", "spread", "m"] (defScope s_plain_copies) := ⟨rfl, rfl, rfl, by decide +kernel, rfl, by decide +kernel, by decide +kernel⟩
abbrev s_bound_of : Stmt := top 49
abbrev N_bound_of : List Str := ["numbers", "spread"]
theorem sc_bound_of : FnScope N_bound_of ["numbers", "spread"] (defScope s_bound_of) := ⟨rfl, rfl, rfl, by decide +kernel, rfl, by decide +kernel, by decide +kernel⟩
abbrev s_sees : Stmt := top 50
abbrev N_sees : List Str := ["numbers", "spread", "r", "bound", "near"]
theorem sc_sees : FnScope N_sees ["numbers", "spread", "r"] (defScope s_sees) := ⟨rfl, rfl, rfl, by decide +kernel, rfl, by decide +kernel, by decide +kernel⟩
abbrev s_least_asked : Stmt := top 51
abbrev N_least_asked : List Str := ["numbers", "spread", "bound", "near", "every"]
theorem sc_least_asked : FnScope N_least_asked ["numbers", "spread"] (defScope s_least_asked) := ⟨rfl, rfl, rfl, by decide +kernel, rfl, by decide +kernel, by decide +kernel⟩
abbrev s_sees_with_ends : Stmt := top 52
abbrev N_sees_with_ends : List Str := ["numbers", "spread", "every"]
theorem sc_sees_with_ends : FnScope N_sees_with_ends ["numbers", "spread"] (defScope s_sees_with_ends) := ⟨rfl, rfl, rfl, by decide +kernel, rfl, by decide +kernel, by decide +kernel⟩
abbrev s_Thin_init : Stmt := inClass (top 54) 0
abbrev N_Thin_init : List Str := ["self", "p", "q", "ins", "others"]
theorem sc_Thin_init : FnScope N_Thin_init ["self", "p", "q", "ins", "others"] (defScope s_Thin_init) := ⟨rfl, rfl, rfl, by decide +kernel, rfl, by decide +kernel, by decide +kernel⟩
abbrev s_only_first : Stmt := top 55
abbrev N_only_first : List Str := ["one", "other", "x"]
theorem sc_only_first : FnScope N_only_first ["one", "other"] (defScope s_only_first) := ⟨rfl, rfl, rfl, by decide +kernel, rfl, by decide +kernel, by decide +kernel⟩
abbrev s_far_lots : Stmt := top 56
abbrev N_far_lots : List Str := ["one", "other", "many", "common", "ahead", "behind", "few", "ins", "others"]
theorem sc_far_lots : FnScope N_far_lots ["one", "other", "many"] (defScope s_far_lots) := ⟨rfl, rfl, rfl, by decide +kernel, rfl, by decide +kernel, by decide +kernel⟩
abbrev s_pairs_within : Stmt := top 57
abbrev N_pairs_within : List Str := ["course", "d", "found", "p", "q"]
theorem sc_pairs_within : FnScope N_pairs_within ["course", "d"] (defScope s_pairs_within) := ⟨rfl, rfl, rfl, by decide +kernel, rfl, by decide +kernel, by decide +kernel⟩
abbrev s_thin_of : Stmt := top 58
abbrev N_thin_of : List Str := ["course", "f", "d", "common", "p", "q", "ins", "others"]
theorem sc_thin_of : FnScope N_thin_of ["course", "f", "d", "common"] (defScope s_thin_of) := ⟨rfl, rfl, rfl, by decide +kernel, rfl, by decide +kernel, by decide +kernel⟩
abbrev s__law_heap : Stmt := top 60
abbrev N__law_heap : List Str := ["script", "cells", "stir", "cell"]
theorem sc__law_heap : FnScope N__law_heap ["script"] (defScope s__law_heap) := ⟨rfl, rfl, rfl, by decide +kernel, rfl, by decide +kernel, by decide +kernel⟩
abbrev s__law_draw : Stmt := top 61
abbrev N__law_draw : List Str := ["heap", "many", "rest"]
theorem sc__law_draw : FnScope N__law_draw ["heap", "many"] (defScope s__law_draw) := ⟨rfl, rfl, rfl, by decide +kernel, rfl, by decide +kernel, by decide +kernel⟩
abbrev s__law_pick : Stmt := top 62
abbrev N__law_pick : List Str := ["heap", "some"]
theorem sc__law_pick : FnScope N__law_pick ["heap", "some"] (defScope s__law_pick) := ⟨rfl, rfl, rfl, by decide +kernel, rfl, by decide +kernel, by decide +kernel⟩
abbrev s__law_mixed : Stmt := top 63
abbrev N__law_mixed : List Str := ["heap", "some", "left", "found", "turn"]
theorem sc__law_mixed : FnScope N__law_mixed ["heap", "some"] (defScope s__law_mixed) := ⟨rfl, rfl, rfl, by decide +kernel, rfl, by decide +kernel, by decide +kernel⟩
abbrev s__law_like : Stmt := top 64
abbrev N__law_like : List Str := ["told", "due", "at"]
theorem sc__law_like : FnScope N__law_like ["told", "due"] (defScope s__law_like) := ⟨rfl, rfl, rfl, by decide +kernel, rfl, by decide +kernel, by decide +kernel⟩
abbrev s__law_some : Stmt := top 65
abbrev N__law_some : List Str := ["heap", "some", "many"]
theorem sc__law_some : FnScope N__law_some ["heap", "some", "many"] (defScope s__law_some) := ⟨rfl, rfl, rfl, by decide +kernel, rfl, by decide +kernel, by decide +kernel⟩
abbrev s__law_lacks : Stmt := top 66
abbrev N__law_lacks : List Str := ["one", "other", "house"]
theorem sc__law_lacks : FnScope N__law_lacks ["one", "other"] (defScope s__law_lacks) := ⟨rfl, rfl, rfl, by decide +kernel, rfl, by decide +kernel, by decide +kernel⟩
abbrev s__law_gap : Stmt := top 67
abbrev N__law_gap : List Str := ["course", "d", "found", "p", "q"]
theorem sc__law_gap : FnScope N__law_gap ["course", "d"] (defScope s__law_gap) := ⟨rfl, rfl, rfl, by decide +kernel, rfl, by decide +kernel, by decide +kernel⟩
abbrev s__law_line : Stmt := top 68
abbrev N__law_line : List Str := ["course", "d", "g", "p", "liars", "keepers", "need", "blank", "lots", "gates", "barred", "i", "fresh", "stay", "house"]
theorem sc__law_line : FnScope N__law_line ["course", "d", "g", "p", "liars", "keepers", "need"] (defScope s__law_line) := ⟨rfl, rfl, rfl, by decide +kernel, rfl, by decide +kernel, by decide +kernel⟩
abbrev s__law_slow : Stmt := top 69
abbrev N__law_slow : List Str := ["heap", "k", "most", "d", "houses", "words", "lot", "changes", "found", "turn", "room", "others", "away", "house"]
theorem sc__law_slow : FnScope N__law_slow ["heap", "k", "most", "d", "houses", "words"] (defScope s__law_slow) := ⟨rfl, rfl, rfl, by decide +kernel, rfl, by decide +kernel, by decide +kernel⟩
abbrev s__law_stairs : Stmt := top 70
abbrev N__law_stairs : List Str := ["k", "f", "most", "d", "words", "lots", "gone", "i"]
theorem sc__law_stairs : FnScope N__law_stairs ["k", "f", "most", "d", "words"] (defScope s__law_stairs) := ⟨rfl, rfl, rfl, by decide +kernel, rfl, by decide +kernel, by decide +kernel⟩
abbrev s__law_never_open : Stmt := top 71
abbrev N__law_never_open : List Str := ["heap", "parts", "most", "need", "k", "f", "d", "m", "w1", "w2", "g", "numbers", "holds", "course", "turn", "p", "liars", "every", "house", "lot", "keepers", "due", "one"]
theorem sc__law_never_open : FnScope N__law_never_open ["heap", "parts", "most", "need"] (defScope s__law_never_open) := ⟨rfl, rfl, rfl, by decide +kernel, rfl, by decide +kernel, by decide +kernel⟩
abbrev s__law_some_open : Stmt := top 72
abbrev N__law_some_open : List Str := ["parts", "most", "need", "k", "f", "d", "m", "w1", "w2", "g", "course", "numbers", "lot", "keepers"]
theorem sc__law_some_open : FnScope N__law_some_open ["parts", "most", "need"] (defScope s__law_some_open) := ⟨rfl, rfl, rfl, by decide +kernel, rfl, by decide +kernel, by decide +kernel⟩
abbrev s__law_sums_right : Stmt := top 73
abbrev N__law_sums_right : List Str := ["parts", "most", "k", "f", "d", "m", "w1", "w2", "g", "numbers", "room", "near", "calm", "kinds", "r", "reach", "plain"]
theorem sc__law_sums_right : FnScope N__law_sums_right ["parts", "most"] (defScope s__law_sums_right) := ⟨rfl, rfl, rfl, by decide +kernel, rfl, by decide +kernel, by decide +kernel⟩
abbrev s__law_borders_right : Stmt := top 74
abbrev N__law_borders_right : List Str := ["heap", "f", "most", "m", "d", "k", "best", "lots", "houses", "is_thin", "lot"]
theorem sc__law_borders_right : FnScope N__law_borders_right ["heap", "f", "most", "m", "d"] (defScope s__law_borders_right) := ⟨rfl, rfl, rfl, by decide +kernel, rfl, by decide +kernel, by decide +kernel⟩
abbrev s_law : Stmt := top 75
abbrev N_law : List Str := ["script", "heap", "turn", "k", "f", "most", "m", "d", "need", "both", "w2", "w1", "g", "parts"]
theorem sc_law : FnScope N_law ["script"] (defScope s_law) := ⟨rfl, rfl, rfl, by decide +kernel, rfl, by decide +kernel, by decide +kernel⟩
structure Txt (K : PySem.W.Frag) (mg : Str → Option Value) where
  abs : mg "abs" = none
  all : mg "all" = none
  any : mg "any" = none
  bool : mg "bool" = none
  enumerate : mg "enumerate" = none
  int : mg "int" = none
  isinstance : mg "isinstance" = none
  len : mg "len" = none
  list : mg "list" = none
  max : mg "max" = none
  min : mg "min" = none
  range : mg "range" = none
  set : mg "set" = none
  sorted : mg "sorted" = none
  str : mg "str" = none
  sum : mg "sum" = none
  tuple : mg "tuple" = none
  t_FAR : Tok
  c_FAR : mg "FAR" = some (.str "far" t_FAR)
  t_GONE : Tok
  c_GONE : mg "GONE" = some (.str "gone" t_GONE)
  t_MOST_COPIES : Tok
  c_MOST_COPIES : mg "MOST_COPIES" = some (.int 12 t_MOST_COPIES)
  t_MOST_LAG : Tok
  c_MOST_LAG : mg "MOST_LAG" = some (.int 200 t_MOST_LAG)
  t_MOST_PIECES : Tok
  c_MOST_PIECES : mg "MOST_PIECES" = some (.int 6 t_MOST_PIECES)
  t_NEAR : Tok
  c_NEAR : mg "NEAR" = some (.str "near" t_NEAR)
  C_Numbers : Addr
  fI_Numbers : Addr
  m_Numbers : mg "Numbers" = some (.ref C_Numbers)
  mk_Numbers : Mk K C_Numbers fI_Numbers
  cl_Numbers : Cls K C_Numbers
  n_Numbers_k : ∀ C, mg "Numbers" = some (.ref C) → NoAttr K C "k"
  n_Numbers_f : ∀ C, mg "Numbers" = some (.ref C) → NoAttr K C "f"
  n_Numbers_d : ∀ C, mg "Numbers" = some (.ref C) → NoAttr K C "d"
  n_Numbers_m : ∀ C, mg "Numbers" = some (.ref C) → NoAttr K C "m"
  n_Numbers_w1 : ∀ C, mg "Numbers" = some (.ref C) → NoAttr K C "w1"
  n_Numbers_w2 : ∀ C, mg "Numbers" = some (.ref C) → NoAttr K C "w2"
  n_Numbers_g : ∀ C, mg "Numbers" = some (.ref C) → NoAttr K C "g"
  C_Thin : Addr
  fI_Thin : Addr
  m_Thin : mg "Thin" = some (.ref C_Thin)
  mk_Thin : Mk K C_Thin fI_Thin
  cl_Thin : Cls K C_Thin
  n_Thin_p : ∀ C, mg "Thin" = some (.ref C) → NoAttr K C "p"
  n_Thin_q : ∀ C, mg "Thin" = some (.ref C) → NoAttr K C "q"
  n_Thin_ins : ∀ C, mg "Thin" = some (.ref C) → NoAttr K C "ins"
  n_Thin_others : ∀ C, mg "Thin" = some (.ref C) → NoAttr K C "others"
  known : ∀ c ∈ (["Numbers", "Thin"] : List Str), ∀ C, mg c = some (.ref C) → IsiO K C
  kU : ∀ c ∈ (["Numbers", "Thin"] : List Str), ∀ C, mg c = some (.ref C) → ∀ U : Tn, PySem.W.kitOne K (.ref C) (.type U.nm) = some false
  kB_Numbers : ∀ S ∈ bnames, PySem.W.kitOne K (.type S) (.ref C_Numbers) = some false
  kC_Numbers : ∀ c ∈ (["Numbers", "Thin"] : List Str), ∀ C, mg c = some (.ref C) → PySem.W.kitOne K (.ref C) (.ref C_Numbers) = some (decide (c = "Numbers"))
  kB_Thin : ∀ S ∈ bnames, PySem.W.kitOne K (.type S) (.ref C_Thin) = some false
  kC_Thin : ∀ c ∈ (["Numbers", "Thin"] : List Str), ∀ C, mg c = some (.ref C) → PySem.W.kitOne K (.ref C) (.ref C_Thin) = some (decide (c = "Thin"))
section
variable {P : Program} {w : World} {K : PySem.W.Frag} {mg : Str → Option Value} {base : Heap}
theorem ok_is_integer {f : Addr} {fd : FuncData} (F : Fun K "is_integer" "is_integer" s_is_integer f fd) (T : Txt K mg) : FnOk P w K mg base CX0 1 f fd ["value"] (spV (gxOf K w mg) W_is_integer) := by
  refine F.ok sc_is_integer (fun vs H Q E h => spV_len (fun h => h.1) h) (fun cdv A outer s H vs Q E hr h => okV (N := N_is_integer) rfl
  (vb_one (vs_ret (ve_and (ve_isiB (cs := ["Numbers", "Thin"]) (U := .int) rfl (vo_var (pv 0)) (pe_ty "int" (by rfl) T.int) (by rfl) T.isinstance T.known (fun c hc C hC => T.kU c hc C hC _)) (ve_one (ve_not (ve_isiB (cs := ["Numbers", "Thin"]) (U := .bool) rfl (vo_var (pv 0)) (pe_ty "bool" (by rfl) T.bool) (by rfl) T.isinstance T.known (fun c hc C hC => T.kU c hc C hC _))))))) h)
theorem ok_is_number {f : Addr} {fd : FuncData} (F : FunD K "is_number" "is_number" (defArgs s_is_number) (defBody s_is_number) (defScope s_is_number) [.non] [] f fd) (T : Txt K mg) (D_is_integer : Df P w K mg base 1 "is_integer" ["value"] (spV (gxOf K w mg) W_is_integer)) : FnOk P w K mg base CX0 2 f fd ["value", "most"] (spV (gxOf K w mg) W_is_number) := by
  refine F.ok sc_is_number (fun vs H Q E h => spV_len (fun h => h.1) h) (fun cdv A outer s H vs Q E hr h => okV (N := N_is_number) rfl
  (vb_one (vs_ret (ve_and (ve_call D_is_integer.ok (hr.mono (by first | decide | omega)) (by rfl) D_is_integer.m D_is_integer.kp D_is_integer.b .nil (fun _ _ => .nil) pass0 (va_cons (vo_var (pv 0)) va_nil)) (ve_and (ve_cmp op_ge os_ge (vo_var (pv 0)) (vo_of (ve_int pe_int)) (nomark _)) (ve_one (ve_or (ve_cmp op_isN os_isN (vo_var (pv 1)) (vo_of (ve_non pe_non)) (nomark _)) (ve_one (ve_cmp op_le os_le (vo_var (pv 0)) (vo_var (pv 1)) (nomark _))))))))) h)
theorem ok_comers {f : Addr} {fd : FuncData} (F : Fun K "comers" "comers" s_comers f fd) (T : Txt K mg) : FnOk P w K mg base CX0 1 f fd ["course", "i"] (spV (gxOf K w mg) W_comers) := by
  refine F.ok sc_comers (fun vs H Q E h => spV_len (fun h => h.1) h) (fun cdv A outer s H vs Q E hr h => okV (N := N_comers) rfl
  (vb_one (vs_ret (ve_ct (kcall_tuple_of rfl) cs_tuple (by rfl) T.tuple (by decide +kernel) (va_cons (vo_of (ve_fz (vf_lc (own := [("house", 2)]) rfl sc_comers.nd (vi_seq rfl (vo_of (ve_ix rfl (vo_var (pv 0)) (vo_var (pv 1)) (fun _ _ => rfl)))) (blkOk_by (own := [("house", 2)]) (N := N_comers) (sc := defScope s_comers) (by decide +kernel)) (fun _ _ _ _ _ => (vg_name (i := 2) sc_comers.nd rfl (by first | exact Or.inl rfl | exact Or.inr rfl))) (fun _ _ _ _ _ => (vts_one (vt_cmp (op_notInP rfl (hu_of hr)) os_inP (vo_var (pv 2)) (vo_of (ve_ix rfl (vo_var (pv 0)) (vo_of (ve_op op_sub os_sub (vo_var (pv 1)) (vo_of (ve_int pe_int)))) (fun _ _ => rfl))) (by rfl)))) (fun _ _ _ _ _ => (ve_var (pv 2)))))) va_nil)))) h)
theorem ok_in_both {f : Addr} {fd : FuncData} (F : Fun K "in_both" "in_both" s_in_both f fd) (T : Txt K mg) : FnOk P w K mg base CX0 1 f fd ["one", "other"] (spV (gxOf K w mg) W_in_both) := by
  refine F.ok sc_in_both (fun vs H Q E h => spV_len (fun h => h.1) h) (fun cdv A outer s H vs Q E hr h => okV (N := N_in_both) rfl
  (vb_one (vs_ret (ve_ct (kcall_tuple_of rfl) cs_tuple (by rfl) T.tuple (by decide +kernel) (va_cons (vo_of (ve_fz (vf_lc (own := [("house", 2)]) rfl sc_in_both.nd (vi_seq rfl (vo_var (pv 0))) (blkOk_by (own := [("house", 2)]) (N := N_in_both) (sc := defScope s_in_both) (by decide +kernel)) (fun _ _ _ _ _ => (vg_name (i := 2) sc_in_both.nd rfl (by first | exact Or.inl rfl | exact Or.inr rfl))) (fun _ _ _ _ _ => (vts_one (vt_cmp (op_inP rfl (hu_of hr)) os_inP (vo_var (pv 2)) (vo_var (pv 1)) (by rfl)))) (fun _ _ _ _ _ => (ve_var (pv 2)))))) va_nil)))) h)
theorem ok_lot_without {f : Addr} {oc od dV kV doc pm cdv ct an osl} (lk : K.lookup f = some ⟨oc, od, .func (PySem.W.fnOf "lot_without" "lot_without" (defArgs s_lot_without) (defBody s_lot_without) (defScope s_lot_without) dV kV doc pm an cdv ct), osl⟩) (hcd : PySem.W.codeIn K cdv "lot_without" = true) (hb : ∀ us rest : List Value, us.length = 1 → bindArgs (PySem.W.fnOf "lot_without" "lot_without" (defArgs s_lot_without) (defBody s_lot_without) (defScope s_lot_without) dV kV doc pm an cdv ct) ⟨us ++ rest, []⟩ = (newTuple rest >>= fun t => pure ((["lot"] : List Str).zip us ++ [(("others" : Str), t)]))) (T : Txt K mg) : FnR P w K mg base CX0 1 f (spV (gxOf K w mg) (starW 1 W_lot_without)) := by
  refine fun A outer s H us vs Q E hr he r h => StX.fn_star (ps := ["lot"]) (sp := spV (gxOf K w mg) W_lot_without) lk hcd sc_lot_without StX.cxUp_none hb (fun A outer s H vs Q E hr h => okV (N := N_lot_without) rfl
  (vb_one (vs_ret (ve_ct (kcall_tuple_of rfl) cs_tuple (by rfl) T.tuple (by decide +kernel) (va_cons (vo_of (ve_fz (vf_lc (own := [("house", 2)]) rfl sc_lot_without.nd (vi_seq rfl (vo_var (pv 0))) (blkOk_by (own := [("house", 2)]) (N := N_lot_without) (sc := defScope s_lot_without) (by decide +kernel)) (fun _ _ _ _ _ => (vg_name (i := 2) sc_lot_without.nd rfl (by first | exact Or.inl rfl | exact Or.inr rfl))) (fun _ _ _ _ _ => (vts_one (vt_not (vt_tru rfl (vo_of (ve_cb (kcr_any rfl rfl) cs_any (by rfl) T.any (by decide +kernel) (va_cons (vo_of (ve_fz (vf_lc (own := [("other", 3)]) rfl sc_lot_without.nd (vi_seq rfl (vo_var (pv 1))) (blkOk_by (own := [("other", 3)]) (by kernel_rfl)) (fun _ _ _ _ _ => (vg_name (i := 3) sc_lot_without.nd rfl (by first | exact Or.inl rfl | exact Or.inr rfl))) (fun _ _ _ _ _ => vts_nil) (fun _ _ _ _ _ => (ve_cmp (op_inP rfl (hu_of hr)) os_inP (vo_var (pv 2)) (vo_var (pv 3)) (by rfl)))))) va_nil))))))) (fun _ _ _ _ _ => (ve_var (pv 2)))))) va_nil)))) h) A outer s H us vs Q E hr he r (star_imp h)
theorem ok_line_from {f : Addr} {fd : FuncData} (F : Fun K "line_from" "line_from" s_line_from f fd) (T : Txt K mg) (D_lot_without : DfR P w K mg base 1 "lot_without" (spV (gxOf K w mg) (starW 1 W_lot_without))) (D_in_both : Df P w K mg base 1 "in_both" ["one", "other"] (spV (gxOf K w mg) W_in_both)) (D_comers : Df P w K mg base 1 "comers" ["course", "i"] (spV (gxOf K w mg) W_comers)) : FnOk P w K mg base CX0 2 f fd ["course", "numbers", "p", "liars", "keepers", "need"] (spV (gxOf K w mg) W_line_from) := by
  refine F.ok sc_line_from (fun vs H Q E h => spV_len (fun h => h.1) h) (fun cdv A outer s H vs Q E hr h => okV (N := N_line_from) rfl
  (vb_cons (vs_set (i := 6) sc_line_from.nd rfl (by first | exact Or.inl rfl | exact Or.inr rfl) (ve_op (op_addP rfl) os_add (vo_var (pv 2)) (vo_of (ve_fld rfl (ve_var (pv 1)) rfl))))
  (vb_cons (vs_if (vt_cmp op_ge os_ge (vo_var (pv 6)) (vo_of (ve_cb (cr_lenP rfl) cs_len (by rfl) T.len (by decide +kernel) (va_cons (vo_var (pv 0)) va_nil))) (nomark _))
  (vb_one (vs_ret (ve_tup (va_cons (vo_of (ve_fz (vf_lst va_nil))) (va_cons (vo_of (ve_fz (vf_lst va_nil))) va_nil)))))
  vb_nil)
  (vb_cons (vs_parT (is := [7, 8, 9, 10]) (vqs_cons (vq_v (ve_callR D_lot_without.ok (hr.mono (by first | decide | omega)) (by rfl) D_lot_without.m D_lot_without.kp pass0 (va_cons (vo_of (ve_ix rfl (vo_var (pv 0)) (vo_var (pv 6)) (fun _ _ => rfl))) (va_cons (vo_var (pv 4)) (va_cons (vo_var (pv 3)) va_nil))))) (vqs_cons vq_dic (vqs_cons (vq_f (vf_lst va_nil)) (vqs_cons (vq_f (vf_lst va_nil)) vqs_nil)))) (kpg_tup (K := K) (n := 4) rfl rfl (pgs_cons (pg_name (i := 7) sc_line_from.nd rfl (by first | exact Or.inl rfl | exact Or.inr rfl)) (pgs_cons (pg_name (i := 8) sc_line_from.nd rfl (by first | exact Or.inl rfl | exact Or.inr rfl)) (pgs_cons (pg_name (i := 9) sc_line_from.nd rfl (by first | exact Or.inl rfl | exact Or.inr rfl)) (pgs_cons (pg_name (i := 10) sc_line_from.nd rfl (by first | exact Or.inl rfl | exact Or.inr rfl)) pgs_nil))))))
  (vb_cons (vs_expr (ve_app rfl (pv 9) (ve_var (pv 7))))
  (vb_cons (vs_for PassesOwn.never rfl (vi_rg2 (by rfl) T.range (va_cons (vo_var (pv 6)) (va_cons (vo_of (ve_op op_sub os_sub (vo_of (ve_cb (cr_lenP rfl) cs_len (by rfl) T.len (by decide +kernel) (va_cons (vo_var (pv 0)) va_nil))) (vo_of (ve_int pe_int)))) va_nil))) (vg_name (i := 11) sc_line_from.nd rfl (by first | exact Or.inl rfl | exact Or.inr rfl))
  (vb_cons (vs_set (i := 12) sc_line_from.nd rfl (by first | exact Or.inl rfl | exact Or.inr rfl) (ve_call D_in_both.ok (hr.mono (by first | decide | omega)) (by rfl) D_in_both.m D_in_both.kp D_in_both.b .nil (fun _ _ => .nil) pass0 (va_cons (vo_var (pv 7)) (va_cons (vo_of (ve_ix rfl (vo_var (pv 0)) (vo_of (ve_op (op_addP rfl) os_add (vo_var (pv 11)) (vo_of (ve_int pe_int)))) (fun _ _ => rfl))) va_nil))))
  (vb_cons (vs_set (i := 13) sc_line_from.nd rfl (by first | exact Or.inl rfl | exact Or.inr rfl) (ve_call D_comers.ok (hr.mono (by first | decide | omega)) (by rfl) D_comers.m D_comers.kp D_comers.b .nil (fun _ _ => .nil) pass0 (va_cons (vo_var (pv 0)) (va_cons (vo_of (ve_op (op_addP rfl) os_add (vo_var (pv 11)) (vo_of (ve_int pe_int)))) va_nil))))
  (vb_cons (vs_if (vt_cmp op_ge os_ge (vo_of (ve_op (op_addP rfl) os_add (vo_of (ve_cb (cr_lenP rfl) cs_len (by rfl) T.len (by decide +kernel) (va_cons (vo_var (pv 7)) va_nil))) (vo_of (ve_cb (cr_lenP rfl) cs_len (by rfl) T.len (by decide +kernel) (va_cons (vo_of (ve_call D_in_both.ok (hr.mono (by first | decide | omega)) (by rfl) D_in_both.m D_in_both.kp D_in_both.b .nil (fun _ _ => .nil) pass0 (va_cons (vo_of (ve_ix rfl (vo_var (pv 0)) (vo_var (pv 11)) (fun _ _ => rfl))) (va_cons (vo_var (pv 3)) va_nil)))) va_nil))))) (vo_of (ve_op (op_addP rfl) os_add (vo_of (ve_op op_sub os_sub (vo_of (ve_fld rfl (ve_var (pv 1)) rfl)) (vo_var (pv 5)))) (vo_of (ve_int pe_int)))) (nomark _))
  (vb_cons (vs_expr (ve_app rfl (pv 10) (ve_var (pv 11))))
  (vb_one (vs_set (i := 12) sc_line_from.nd rfl (by first | exact Or.inl rfl | exact Or.inr rfl) (ve_op (op_addP rfl) os_add (vo_var (pv 12)) (vo_of (ve_callR D_lot_without.ok (hr.mono (by first | decide | omega)) (by rfl) D_lot_without.m D_lot_without.kp pass0 (va_cons (vo_var (pv 13)) (va_cons (vo_var (pv 4)) (va_cons (vo_var (pv 3)) (va_cons (vo_var (pv 8)) va_nil))))))))))
  (vb_one (vs_for PassesOwn.never rfl (vi_seq rfl (vo_var (pv 13))) (vg_name (i := 14) sc_line_from.nd rfl (by first | exact Or.inl rfl | exact Or.inr rfl))
  (vb_one (vs_dput (hu_of hr) (pv 8) (ve_var (pv 14)) (ve_bl pe_bl))))))
  (vb_cons (vs_set (i := 7) sc_line_from.nd rfl (by first | exact Or.inl rfl | exact Or.inr rfl) (ve_ct (kcall_tuple_of rfl) cs_tuple (by rfl) T.tuple (by decide +kernel) (va_cons (vo_of (ve_fz (vf_cb (cr_sortedP3 rfl rfl rfl) csf_sortedP (by rfl) T.sorted (by decide +kernel) (va_cons (vo_var (pv 12)) va_nil)))) va_nil)))
  (vb_one (vs_expr (ve_app rfl (pv 9) (ve_var (pv 7))))))))))
  (vb_one (vs_frz 10 (vs_frz 9 (vs_ret (ve_tup (va_cons (vo_of (ve_var (pv 9))) (va_cons (vo_of (ve_var (pv 10))) va_nil)))))))))))) h)
theorem ok_blanks {f : Addr} {fd : FuncData} (F : Fun K "blanks" "blanks" s_blanks f fd) (T : Txt K mg) (D_line_from : Df P w K mg base 2 "line_from" ["course", "numbers", "p", "liars", "keepers", "need"] (spV (gxOf K w mg) W_line_from)) : FnOk P w K mg base CX0 3 f fd ["course", "numbers", "p", "liars", "keepers", "need"] (spV (gxOf K w mg) W_blanks) := by
  refine F.ok sc_blanks (fun vs H Q E h => spV_len (fun h => h.1) h) (fun cdv A outer s H vs Q E hr h => okV (N := N_blanks) rfl
  (vb_one (vs_ret (ve_ct (kcall_tuple_of rfl) cs_tuple (by rfl) T.tuple (by decide +kernel) (va_cons (vo_of (ve_ix rfl (vo_of (ve_call D_line_from.ok (hr.mono (by first | decide | omega)) (by rfl) D_line_from.m D_line_from.kp D_line_from.b .nil (fun _ _ => .nil) pass0 (va_cons (vo_var (pv 0)) (va_cons (vo_var (pv 1)) (va_cons (vo_var (pv 2)) (va_cons (vo_var (pv 3)) (va_cons (vo_var (pv 4)) (va_cons (vo_var (pv 5)) va_nil)))))))) (vo_of (ve_int pe_int)) (fun _ _ => rfl))) va_nil)))) h)
theorem ok_open_words {f : Addr} {fd : FuncData} (F : Fun K "open_words" "open_words" s_open_words f fd) (T : Txt K mg) (D_line_from : Df P w K mg base 2 "line_from" ["course", "numbers", "p", "liars", "keepers", "need"] (spV (gxOf K w mg) W_line_from)) : FnOk P w K mg base CX0 3 f fd ["course", "numbers", "p", "liars", "keepers", "need"] (spV (gxOf K w mg) W_open_words) := by
  refine F.ok sc_open_words (fun vs H Q E h => spV_len (fun h => h.1) h) (fun cdv A outer s H vs Q E hr h => okV (N := N_open_words) rfl
  (vb_one (vs_ret (ve_ct (kcall_tuple_of rfl) cs_tuple (by rfl) T.tuple (by decide +kernel) (va_cons (vo_of (ve_ix rfl (vo_of (ve_call D_line_from.ok (hr.mono (by first | decide | omega)) (by rfl) D_line_from.m D_line_from.kp D_line_from.b .nil (fun _ _ => .nil) pass0 (va_cons (vo_var (pv 0)) (va_cons (vo_var (pv 1)) (va_cons (vo_var (pv 2)) (va_cons (vo_var (pv 3)) (va_cons (vo_var (pv 4)) (va_cons (vo_var (pv 5)) va_nil)))))))) (vo_of (ve_int pe_int)) (fun _ _ => rfl))) va_nil)))) h)
theorem ok_share_of {f : Addr} {fd : FuncData} (F : Fun K "share_of" "share_of" s_share_of f fd) (T : Txt K mg) : FnOk P w K mg base CX0 1 f fd ["is_signed"] (spV (gxOf K w mg) W_share_of) := by
  refine F.ok sc_share_of (fun vs H Q E h => spV_len (fun h => h.1) h) (fun cdv A outer s H vs Q E hr h => okV (N := N_share_of) rfl
  (vb_one (vs_ret (ve_ifE (vt_tru rfl (vo_var (pv 0))) (ve_int pe_int) (ve_int pe_int)))) h)
theorem ok_most_common {f : Addr} {fd : FuncData} (F : Fun K "most_common" "most_common" s_most_common f fd) (T : Txt K mg) (D_share_of : Df P w K mg base 1 "share_of" ["is_signed"] (spV (gxOf K w mg) W_share_of)) : FnOk P w K mg base CX0 2 f fd ["f", "parts", "is_signed"] (spV (gxOf K w mg) W_most_common) := by
  refine F.ok sc_most_common (fun vs H Q E h => spV_len (fun h => h.1) h) (fun cdv A outer s H vs Q E hr h => okV (N := N_most_common) rfl
  (vb_one (vs_ret (ve_op op_sub os_sub (vo_of (ve_op (op_addP rfl) os_add (vo_of (ve_op (op_mulP rfl) os_mul (vo_of (ve_op op_sub os_sub (vo_of (ve_call D_share_of.ok (hr.mono (by first | decide | omega)) (by rfl) D_share_of.m D_share_of.kp D_share_of.b .nil (fun _ _ => .nil) pass0 (va_cons (vo_var (pv 2)) va_nil))) (vo_of (ve_int pe_int)))) (vo_var (pv 0)))) (vo_var (pv 1)))) (vo_of (ve_int pe_int))))) h)
theorem ok_least_copies {f : Addr} {fd : FuncData} (F : Fun K "least_copies" "least_copies" s_least_copies f fd) (T : Txt K mg) (D_share_of : Df P w K mg base 1 "share_of" ["is_signed"] (spV (gxOf K w mg) W_share_of)) : FnOk P w K mg base CX0 2 f fd ["f", "spread", "parts", "is_signed"] (spV (gxOf K w mg) W_least_copies) := by
  refine F.ok sc_least_copies (fun vs H Q E h => spV_len (fun h => h.1) h) (fun cdv A outer s H vs Q E hr h => okV (N := N_least_copies) rfl
  (vb_one (vs_ret (ve_op (op_addP rfl) os_add (vo_of (ve_op (op_addP rfl) os_add (vo_of (ve_op (op_mulP rfl) os_mul (vo_of (ve_call D_share_of.ok (hr.mono (by first | decide | omega)) (by rfl) D_share_of.m D_share_of.kp D_share_of.b .nil (fun _ _ => .nil) pass0 (va_cons (vo_var (pv 3)) va_nil))) (vo_var (pv 0)))) (vo_var (pv 1)))) (vo_var (pv 2))))) h)
theorem ok_Numbers_init {f : Addr} {fd : FuncData} (F : Fun K "__init__" "Numbers.__init__" s_Numbers_init f fd) (T : Txt K mg) (D_is_number : Df P w K mg base 2 "is_number" ["value", "most"] (spV (gxOf K w mg) W_is_number)) : FnOk P w K mg base CX0 3 f fd ["self", "k", "f", "d", "m", "w1", "w2", "g"] (spN (gxOf K w mg) "Numbers" W_Numbers_init) := by
  refine F.ok sc_Numbers_init (fun vs H Q E h => spN_len (fun h => h.1) h) (fun cdv A outer s H vs Q E hr h => okN (N := N_Numbers_init) rfl
  (vb_cons (vs_if (VW.vt (vw_or (vt_not (vt_tru rfl (vo_of (ve_call D_is_number.ok (hr.mono (by first | decide | omega)) (by rfl) D_is_number.m D_is_number.kp D_is_number.b .nil (fun _ _ => .nil) pass0 (va_cons (vo_var (pv 1)) (va_cons (vo_of (ve_int (pe_glob (v := .int 12) (by rfl) T.c_MOST_COPIES ⟨_, rfl⟩))) va_nil)))))) (vw_or1 (vt_cmp (kop_eqD rfl hr.units) os_eq (vo_var (pv 1)) (vo_of (ve_int pe_int)) (nomark _)))))
  (vb_one vs_nev)
  vb_nil)
  (vb_cons (vs_if (vt_not (vt_tru rfl (vo_of (ve_call D_is_number.ok (hr.mono (by first | decide | omega)) (by rfl) D_is_number.m D_is_number.kp D_is_number.b .nil (fun _ _ => .nil) pass0 (va_cons (vo_var (pv 2)) (va_cons (vo_var (pv 1)) va_nil))))))
  (vb_one vs_nev)
  vb_nil)
  (vb_cons (vs_if (VW.vt (vw_or (vt_not (vt_tru rfl (vo_of (ve_call D_is_number.ok (hr.mono (by first | decide | omega)) (by rfl) D_is_number.m D_is_number.kp D_is_number.b .nil (fun _ _ => .nil) pass0 (va_cons (vo_var (pv 3)) (va_cons (vo_of (ve_int (pe_glob (v := .int 200) (by rfl) T.c_MOST_LAG ⟨_, rfl⟩))) va_nil)))))) (vw_or1 (vt_cmp (kop_eqD rfl hr.units) os_eq (vo_var (pv 3)) (vo_of (ve_int pe_int)) (nomark _)))))
  (vb_one vs_nev)
  vb_nil)
  (vb_cons (vs_if (VW.vt (vw_or (vt_not (vt_tru rfl (vo_of (ve_call D_is_number.ok (hr.mono (by first | decide | omega)) (by rfl) D_is_number.m D_is_number.kp D_is_number.b .nil (fun _ _ => .nil) pass0 (va_cons (vo_var (pv 4)) (va_cons (vo_of (ve_cb (cr_minP rfl rfl (room65 hr)) cs_min (by rfl) T.min (by decide +kernel) (va_cons (vo_var (pv 1)) (va_cons (vo_of (ve_int (pe_glob (v := .int 6) (by rfl) T.c_MOST_PIECES ⟨_, rfl⟩))) va_nil)))) va_nil)))))) (vw_or1 (vt_cmp (kop_eqD rfl hr.units) os_eq (vo_var (pv 4)) (vo_of (ve_int pe_int)) (nomark _)))))
  (vb_one vs_nev)
  vb_nil)
  (vb_cons (vs_for PassesOwn.never rfl (vi_enum rfl (by rfl) T.enumerate (va_cons (vo_of (ve_tup (va_cons (vo_of (ve_var (pv 5))) (va_cons (vo_of (ve_var (pv 6))) (va_cons (vo_of (ve_var (pv 7))) va_nil))))) va_nil)) (vg_tup rfl rfl (vgs_cons (vg_name (i := 8) sc_Numbers_init.nd rfl (by first | exact Or.inl rfl | exact Or.inr rfl)) (vgs_cons (vg_name (i := 9) sc_Numbers_init.nd rfl (by first | exact Or.inl rfl | exact Or.inr rfl)) vgs_nil)))
  (vb_one (vs_if (VW.vt (vw_or (vt_not (vt_tru rfl (vo_of (ve_call D_is_number.ok (hr.mono (by first | decide | omega)) (by rfl) D_is_number.m D_is_number.kp D_is_number.b .nil (fun _ _ => .nil) pass0 (va_cons (vo_var (pv 9)) (va_cons (vo_var (pv 1)) va_nil)))))) (vw_or1 (vt_cmp (kop_eqD rfl hr.units) os_eq (vo_var (pv 9)) (vo_of (ve_int pe_int)) (nomark _)))))
  (vb_one vs_nev)
  vb_nil)))
  (vb_cons (vs_fldS (c := "Numbers") rfl (T.n_Numbers_k) (pv 0) (ve_var (pv 1)) rfl)
  (vb_cons (vs_fldS (c := "Numbers") rfl (T.n_Numbers_f) (pv 0) (ve_var (pv 2)) rfl)
  (vb_cons (vs_fldS (c := "Numbers") rfl (T.n_Numbers_d) (pv 0) (ve_var (pv 3)) rfl)
  (vb_cons (vs_fldS (c := "Numbers") rfl (T.n_Numbers_m) (pv 0) (ve_var (pv 4)) rfl)
  (vb_cons (vs_fldS (c := "Numbers") rfl (T.n_Numbers_w1) (pv 0) (ve_var (pv 5)) rfl)
  (vb_cons (vs_fldS (c := "Numbers") rfl (T.n_Numbers_w2) (pv 0) (ve_var (pv 6)) rfl)
  (vb_one (vs_fldS (c := "Numbers") rfl (T.n_Numbers_g) (pv 0) (ve_var (pv 7)) rfl))))))))))))) h)
theorem ok_can_end {f : Addr} {fd : FuncData} (F : Fun K "can_end" "can_end" s_can_end f fd) (T : Txt K mg) : FnOk P w K mg base CX0 1 f fd ["numbers"] (spV (gxOf K w mg) W_can_end) := by
  refine F.ok sc_can_end (fun vs H Q E h => spV_len (fun h => h.1) h) (fun cdv A outer s H vs Q E hr h => okV (N := N_can_end) rfl
  (vb_one (vs_ret (ve_cmp op_le os_le (vo_of (ve_cb (cr_maxP rfl rfl (room65 hr)) cs_max (by rfl) T.max (by decide +kernel) (va_cons (vo_of (ve_fld rfl (ve_var (pv 0)) rfl)) (va_cons (vo_of (ve_fld rfl (ve_var (pv 0)) rfl)) (va_cons (vo_of (ve_fld rfl (ve_var (pv 0)) rfl)) va_nil))))) (vo_of (ve_op op_sub os_sub (vo_of (ve_fld rfl (ve_var (pv 0)) rfl)) (vo_of (ve_fld rfl (ve_var (pv 0)) rfl)))) (nomark _)))) h)
theorem ok_least_counts {f : Addr} {fd : FuncData} (F : Fun K "least_counts" "least_counts" s_least_counts f fd) (T : Txt K mg) : FnOk P w K mg base CX0 1 f fd ["f", "spread", "m"] (spV (gxOf K w mg) W_least_counts) := by
  refine F.ok sc_least_counts (fun vs H Q E h => spV_len (fun h => h.1) h) (fun cdv A outer s H vs Q E hr h => okV (N := N_least_counts) rfl
  (vb_cons (vs_set (i := 3) sc_least_counts.nd rfl (by first | exact Or.inl rfl | exact Or.inr rfl) (ve_op (op_addP rfl) os_add (vo_of (ve_op (op_addP rfl) os_add (vo_of (ve_op (op_mulP rfl) os_mul (vo_of (ve_int pe_int)) (vo_var (pv 0)))) (vo_var (pv 1)))) (vo_var (pv 2))))
  (vb_one (vs_ret (ve_tup (va_cons (vo_of (ve_op (op_addP rfl) os_add (vo_var (pv 0)) (vo_var (pv 3)))) (va_cons (vo_of (ve_ifE (vt_cmp op_gt os_gt (vo_var (pv 1)) (vo_of (ve_int pe_int)) (nomark _)) (ve_var (pv 3)) (ve_int pe_int))) (va_cons (vo_of (ve_var (pv 3))) va_nil))))))) h)
theorem ok_least_numbers {f : Addr} {fd : FuncData} (F : Fun K "least_numbers" "least_numbers" s_least_numbers f fd) (T : Txt K mg) (D_least_counts : Df P w K mg base 1 "least_counts" ["f", "spread", "m"] (spV (gxOf K w mg) W_least_counts)) {fdI_Numbers : FuncData} (GI_Numbers : FnOk P w K mg base CX0 3 T.fI_Numbers fdI_Numbers ["self", "k", "f", "d", "m", "w1", "w2", "g"] (spN (gxOf K w mg) "Numbers" W_Numbers_init)) (bI_Numbers : Binds K fdI_Numbers ["self", "k", "f", "d", "m", "w1", "w2", "g"] []) : FnOk P w K mg base CX0 5 f fd ["f", "spread", "d", "m"] (spV (gxOf K w mg) W_least_numbers) := by
  refine F.ok sc_least_numbers (fun vs H Q E h => spV_len (fun h => h.1) h) (fun cdv A outer s H vs Q E hr h => okV (N := N_least_numbers) rfl
  (vb_cons (vs_asg (ve_call D_least_counts.ok (hr.mono (by first | decide | omega)) (by rfl) D_least_counts.m D_least_counts.kp D_least_counts.b .nil (fun _ _ => .nil) pass0 (va_cons (vo_var (pv 0)) (va_cons (vo_var (pv 1)) (va_cons (vo_var (pv 3)) va_nil)))) (vg_tup rfl rfl (vgs_cons (vg_name (i := 4) sc_least_numbers.nd rfl (by first | exact Or.inl rfl | exact Or.inr rfl)) (vgs_cons (vg_name (i := 5) sc_least_numbers.nd rfl (by first | exact Or.inl rfl | exact Or.inr rfl)) (vgs_cons (vg_name (i := 6) sc_least_numbers.nd rfl (by first | exact Or.inl rfl | exact Or.inr rfl)) vgs_nil)))))
  (vb_one (vs_ret (ve_ifE (vt_cmp op_le os_le (vo_var (pv 4)) (vo_of (ve_int (pe_glob (v := .int 12) (by rfl) T.c_MOST_COPIES ⟨_, rfl⟩))) (nomark _)) (ve_make rfl T.m_Numbers T.cl_Numbers T.mk_Numbers GI_Numbers (hr.mono (by first | decide | omega)) (by rfl) T.m_Numbers bI_Numbers .nil (fun _ _ => .nil) pass0 (va_cons (vo_of (ve_var (pv 4))) (va_cons (vo_of (ve_var (pv 0))) (va_cons (vo_of (ve_var (pv 2))) (va_cons (vo_of (ve_var (pv 3))) (va_cons (vo_of (ve_op op_sub os_sub (vo_var (pv 4)) (vo_var (pv 0)))) (va_cons (vo_of (ve_op op_sub os_sub (vo_var (pv 4)) (vo_var (pv 0)))) (va_cons (vo_of (ve_var (pv 5))) va_nil)))))))) (ve_non pe_non))))) h)
theorem ok_near_slack {f : Addr} {fd : FuncData} (F : Fun K "near_slack" "near_slack" s_near_slack f fd) (T : Txt K mg) : FnOk P w K mg base CX0 1 f fd ["numbers", "spread"] (spV (gxOf K w mg) W_near_slack) := by
  refine F.ok sc_near_slack (fun vs H Q E h => spV_len (fun h => h.1) h) (fun cdv A outer s H vs Q E hr h => okV (N := N_near_slack) rfl
  (vb_one (vs_ret (ve_op op_sub os_sub (vo_of (ve_op op_sub os_sub (vo_of (ve_op op_sub os_sub (vo_of (ve_op (op_mulP rfl) os_mul (vo_of (ve_int pe_int)) (vo_of (ve_fld rfl (ve_var (pv 0)) rfl)))) (vo_of (ve_fld rfl (ve_var (pv 0)) rfl)))) (vo_var (pv 1)))) (vo_of (ve_fld rfl (ve_var (pv 0)) rfl))))) h)
theorem ok_far_slack {f : Addr} {fd : FuncData} (F : Fun K "far_slack" "far_slack" s_far_slack f fd) (T : Txt K mg) : FnOk P w K mg base CX0 1 f fd ["numbers", "spread"] (spV (gxOf K w mg) W_far_slack) := by
  refine F.ok sc_far_slack (fun vs H Q E h => spV_len (fun h => h.1) h) (fun cdv A outer s H vs Q E hr h => okV (N := N_far_slack) rfl
  (vb_one (vs_ret (ve_op op_sub os_sub (vo_of (ve_op op_sub os_sub (vo_of (ve_op op_sub os_sub (vo_of (ve_op (op_addP rfl) os_add (vo_of (ve_fld rfl (ve_var (pv 0)) rfl)) (vo_of (ve_fld rfl (ve_var (pv 0)) rfl)))) (vo_of (ve_fld rfl (ve_var (pv 0)) rfl)))) (vo_var (pv 1)))) (vo_of (ve_fld rfl (ve_var (pv 0)) rfl))))) h)
theorem ok_mend_slack {f : Addr} {fd : FuncData} (F : Fun K "mend_slack" "mend_slack" s_mend_slack f fd) (T : Txt K mg) (D_far_slack : Df P w K mg base 1 "far_slack" ["numbers", "spread"] (spV (gxOf K w mg) W_far_slack)) : FnOk P w K mg base CX0 2 f fd ["numbers", "spread"] (spV (gxOf K w mg) W_mend_slack) := by
  refine F.ok sc_mend_slack (fun vs H Q E h => spV_len (fun h => h.1) h) (fun cdv A outer s H vs Q E hr h => okV (N := N_mend_slack) rfl
  (vb_one (vs_ret (ve_op op_sub os_sub (vo_of (ve_call D_far_slack.ok (hr.mono (by first | decide | omega)) (by rfl) D_far_slack.m D_far_slack.kp D_far_slack.b .nil (fun _ _ => .nil) pass0 (va_cons (vo_var (pv 0)) (va_cons (vo_var (pv 1)) va_nil)))) (vo_of (ve_fld rfl (ve_var (pv 0)) rfl))))) h)
theorem ok_is_single {f : Addr} {fd : FuncData} (F : Fun K "is_single" "is_single" s_is_single f fd) (T : Txt K mg) (D_near_slack : Df P w K mg base 1 "near_slack" ["numbers", "spread"] (spV (gxOf K w mg) W_near_slack)) (D_far_slack : Df P w K mg base 1 "far_slack" ["numbers", "spread"] (spV (gxOf K w mg) W_far_slack)) : FnOk P w K mg base CX0 2 f fd ["numbers", "spread"] (spV (gxOf K w mg) W_is_single) := by
  refine F.ok sc_is_single (fun vs H Q E h => spV_len (fun h => h.1) h) (fun cdv A outer s H vs Q E hr h => okV (N := N_is_single) rfl
  (vb_one (vs_ret (ve_and (ve_cmp op_gt os_gt (vo_of (ve_call D_near_slack.ok (hr.mono (by first | decide | omega)) (by rfl) D_near_slack.m D_near_slack.kp D_near_slack.b .nil (fun _ _ => .nil) pass0 (va_cons (vo_var (pv 0)) (va_cons (vo_var (pv 1)) va_nil)))) (vo_of (ve_int pe_int)) (nomark _)) (ve_one (ve_or (ve_cmp (kop_eqD rfl hr.units) os_eq (vo_var (pv 1)) (vo_of (ve_int pe_int)) (nomark _)) (ve_one (ve_cmp op_gt os_gt (vo_of (ve_call D_far_slack.ok (hr.mono (by first | decide | omega)) (by rfl) D_far_slack.m D_far_slack.kp D_far_slack.b .nil (fun _ _ => .nil) pass0 (va_cons (vo_var (pv 0)) (va_cons (vo_var (pv 1)) va_nil)))) (vo_of (ve_int pe_int)) (nomark _)))))))) h)
theorem ok_is_lasting {f : Addr} {fd : FuncData} (F : Fun K "is_lasting" "is_lasting" s_is_lasting f fd) (T : Txt K mg) (D_mend_slack : Df P w K mg base 2 "mend_slack" ["numbers", "spread"] (spV (gxOf K w mg) W_mend_slack)) : FnOk P w K mg base CX0 3 f fd ["numbers", "spread"] (spV (gxOf K w mg) W_is_lasting) := by
  refine F.ok sc_is_lasting (fun vs H Q E h => spV_len (fun h => h.1) h) (fun cdv A outer s H vs Q E hr h => okV (N := N_is_lasting) rfl
  (vb_cons (vs_if (vt_cmp (kop_eqD rfl hr.units) os_eq (vo_var (pv 1)) (vo_of (ve_int pe_int)) (nomark _))
  (vb_one (vs_ret (ve_cmp op_ge os_ge (vo_of (ve_fld rfl (ve_var (pv 0)) rfl)) (vo_of (ve_op (op_addP rfl) os_add (vo_of (ve_fld rfl (ve_var (pv 0)) rfl)) (vo_of (ve_fld rfl (ve_var (pv 0)) rfl)))) (nomark _))))
  vb_nil)
  (vb_one (vs_ret (ve_cmp op_ge os_ge (vo_of (ve_call D_mend_slack.ok (hr.mono (by first | decide | omega)) (by rfl) D_mend_slack.m D_mend_slack.kp D_mend_slack.b .nil (fun _ _ => .nil) pass0 (va_cons (vo_var (pv 0)) (va_cons (vo_var (pv 1)) va_nil)))) (vo_of (ve_int pe_int)) (nomark _))))) h)
theorem ok_times_over {f : Addr} {fd : FuncData} (F : Fun K "times_over" "times_over" s_times_over f fd) (T : Txt K mg) : FnOk P w K mg base CX0 1 f fd ["many", "spread"] (spV (gxOf K w mg) W_times_over) := by
  refine F.ok sc_times_over (fun vs H Q E h => spV_len (fun h => h.1) h) (fun cdv A outer s H vs Q E hr h => okV (N := N_times_over) rfl
  (vb_one (vs_ret (ve_op op_fdivW os_div (vo_of (ve_op op_sub os_sub (vo_of (ve_op (op_addP rfl) os_add (vo_var (pv 0)) (vo_var (pv 1)))) (vo_of (ve_int pe_int)))) (vo_var (pv 1))))) h)
theorem ok_keepers_beyond {f : Addr} {fd : FuncData} (F : Fun K "keepers_beyond" "keepers_beyond" s_keepers_beyond f fd) (T : Txt K mg) : FnOk P w K mg base CX0 1 f fd ["numbers"] (spV (gxOf K w mg) W_keepers_beyond) := by
  refine F.ok sc_keepers_beyond (fun vs H Q E h => spV_len (fun h => h.1) h) (fun cdv A outer s H vs Q E hr h => okV (N := N_keepers_beyond) rfl
  (vb_one (vs_ret (ve_op (op_addP rfl) os_add (vo_of (ve_op op_sub os_sub (vo_of (ve_op op_sub os_sub (vo_of (ve_fld rfl (ve_var (pv 0)) rfl)) (vo_of (ve_fld rfl (ve_var (pv 0)) rfl)))) (vo_of (ve_fld rfl (ve_var (pv 0)) rfl)))) (vo_of (ve_int pe_int))))) h)
theorem ok_words_to_gone {f : Addr} {fd : FuncData} (F : Fun K "words_to_gone" "words_to_gone" s_words_to_gone f fd) (T : Txt K mg) (D_keepers_beyond : Df P w K mg base 1 "keepers_beyond" ["numbers"] (spV (gxOf K w mg) W_keepers_beyond)) (D_is_lasting : Df P w K mg base 3 "is_lasting" ["numbers", "spread"] (spV (gxOf K w mg) W_is_lasting)) (D_times_over : Df P w K mg base 1 "times_over" ["many", "spread"] (spV (gxOf K w mg) W_times_over)) : FnOk P w K mg base CX0 4 f fd ["numbers", "spread"] (spV (gxOf K w mg) W_words_to_gone) := by
  refine F.ok sc_words_to_gone (fun vs H Q E h => spV_len (fun h => h.1) h) (fun cdv A outer s H vs Q E hr h => okV (N := N_words_to_gone) rfl
  (vb_cons (vs_set (i := 2) sc_words_to_gone.nd rfl (by first | exact Or.inl rfl | exact Or.inr rfl) (ve_call D_keepers_beyond.ok (hr.mono (by first | decide | omega)) (by rfl) D_keepers_beyond.m D_keepers_beyond.kp D_keepers_beyond.b .nil (fun _ _ => .nil) pass0 (va_cons (vo_var (pv 0)) va_nil)))
  (vb_cons (vs_if (vt_cmp op_le os_le (vo_var (pv 2)) (vo_of (ve_int pe_int)) (nomark _))
  (vb_one (vs_ret (ve_int pe_int)))
  vb_nil)
  (vb_cons (vs_if (vt_cmp op_le os_le (vo_var (pv 2)) (vo_var (pv 1)) (nomark _))
  (vb_one (vs_ret (ve_int pe_int)))
  vb_nil)
  (vb_cons (vs_if (vt_tru rfl (vo_of (ve_call D_is_lasting.ok (hr.mono (by first | decide | omega)) (by rfl) D_is_lasting.m D_is_lasting.kp D_is_lasting.b .nil (fun _ _ => .nil) pass0 (va_cons (vo_var (pv 0)) (va_cons (vo_var (pv 1)) va_nil)))))
  (vb_one (vs_ret (ve_non pe_non)))
  vb_nil)
  (vb_one (vs_ret (ve_op (op_addP rfl) os_add (vo_of (ve_op (op_mulP rfl) os_mul (vo_of (ve_op op_sub os_sub (vo_of (ve_call D_times_over.ok (hr.mono (by first | decide | omega)) (by rfl) D_times_over.m D_times_over.kp D_times_over.b .nil (fun _ _ => .nil) pass0 (va_cons (vo_var (pv 2)) (va_cons (vo_var (pv 1)) va_nil)))) (vo_of (ve_int pe_int)))) (vo_of (ve_fld rfl (ve_var (pv 0)) rfl)))) (vo_of (ve_int pe_int))))))))) h)
theorem ok_least_triples {f : Addr} {fd : FuncData} (F : Fun K "least_triples" "least_triples" s_least_triples f fd) (T : Txt K mg) : FnOk P w K mg base CX0 1 f fd ["k", "f", "m", "spread", "most"] (spV (gxOf K w mg) W_least_triples) := by
  refine F.ok sc_least_triples (fun vs H Q E h => spV_len (fun h => h.1) h) (fun cdv A outer s H vs Q E hr h => okV (N := N_least_triples) rfl
  (vb_cons (vs_set (i := 5) sc_least_triples.nd rfl (by first | exact Or.inl rfl | exact Or.inr rfl) (ve_op (op_addP rfl) os_add (vo_of (ve_op op_fdivW os_div (vo_of (ve_op (op_addP rfl) os_add (vo_of (ve_op (op_addP rfl) os_add (vo_var (pv 0)) (vo_var (pv 3)))) (vo_var (pv 1)))) (vo_of (ve_int pe_int)))) (vo_of (ve_int pe_int))))
  (vb_cons (vs_if (vt_cmp op_gt os_gt (vo_var (pv 5)) (vo_var (pv 4)) (nomark _))
  (vb_one (vs_ret (ve_tup va_nil)))
  vb_nil)
  (vb_cons (vs_if (vt_cmp (kop_eqD rfl hr.units) os_eq (vo_var (pv 3)) (vo_of (ve_int pe_int)) (nomark _))
  (vb_one (vs_ret (ve_ifE (vt_cmp op_le os_le (vo_of (ve_op (op_addP rfl) os_add (vo_var (pv 1)) (vo_var (pv 2)))) (vo_var (pv 4)) (nomark _)) (ve_tup (va_cons (vo_of (ve_tup (va_cons (vo_of (ve_var (pv 5))) (va_cons (vo_of (ve_op (op_addP rfl) os_add (vo_var (pv 1)) (vo_var (pv 2)))) (va_cons (vo_of (ve_int pe_int)) va_nil))))) va_nil)) (ve_tup va_nil))))
  vb_nil)
  (vb_cons (vs_set (i := 6) sc_least_triples.nd rfl (by first | exact Or.inl rfl | exact Or.inr rfl) (ve_op (op_addP rfl) os_add (vo_of (ve_op (op_addP rfl) os_add (vo_of (ve_op (op_addP rfl) os_add (vo_var (pv 0)) (vo_var (pv 3)))) (vo_var (pv 1)))) (vo_var (pv 2))))
  (vb_one (vs_ret (ve_ct (kcall_tuple_of rfl) cs_tuple (by rfl) T.tuple (by decide +kernel) (va_cons (vo_of (ve_fz (vf_lc (own := [("second", 7)]) rfl sc_least_triples.nd (vi_rg2 (by rfl) T.range (va_cons (vo_of (ve_op op_sub os_sub (vo_var (pv 6)) (vo_var (pv 4)))) (va_cons (vo_of (ve_op (op_addP rfl) os_add (vo_var (pv 4)) (vo_of (ve_int pe_int)))) va_nil))) (blkOk_by (own := [("second", 7)]) (N := N_least_triples) (sc := defScope s_least_triples) (by decide +kernel)) (fun _ _ _ _ _ => (vg_name (i := 7) sc_least_triples.nd rfl (by first | exact Or.inl rfl | exact Or.inr rfl))) (fun _ _ _ _ _ => vts_nil) (fun _ _ _ _ _ => (ve_tup (va_cons (vo_of (ve_var (pv 5))) (va_cons (vo_of (ve_var (pv 7))) (va_cons (vo_of (ve_op op_sub os_sub (vo_var (pv 6)) (vo_var (pv 7)))) va_nil)))))))) va_nil)))))))) h)
theorem ok_kinds_of {f : Addr} {fd : FuncData} (F : Fun K "kinds_of" "kinds_of" s_kinds_of f fd) (T : Txt K mg) (D_is_lasting : Df P w K mg base 3 "is_lasting" ["numbers", "spread"] (spV (gxOf K w mg) W_is_lasting)) (D_near_slack : Df P w K mg base 1 "near_slack" ["numbers", "spread"] (spV (gxOf K w mg) W_near_slack)) (D_far_slack : Df P w K mg base 1 "far_slack" ["numbers", "spread"] (spV (gxOf K w mg) W_far_slack)) : FnOk P w K mg base CX0 4 f fd ["numbers", "spread"] (spV (gxOf K w mg) W_kinds_of) := by
  refine F.ok sc_kinds_of (fun vs H Q E h => spV_len (fun h => h.1) h) (fun cdv A outer s H vs Q E hr h => okV (N := N_kinds_of) rfl
  (vb_cons (vs_setF (i := 2) sc_kinds_of.nd rfl (by first | exact Or.inl rfl | exact Or.inr rfl) (vf_lst va_nil))
  (vb_cons (vs_if (VW.vt (vw_and (vt_cmp op_gt os_gt (vo_var (pv 1)) (vo_of (ve_int pe_int)) (nomark _)) (vw_and1 (vt_cmp op_le os_le (vo_of (ve_call D_far_slack.ok (hr.mono (by first | decide | omega)) (by rfl) D_far_slack.m D_far_slack.kp D_far_slack.b .nil (fun _ _ => .nil) pass0 (va_cons (vo_var (pv 0)) (va_cons (vo_var (pv 1)) va_nil)))) (vo_of (ve_int pe_int)) (nomark _)))))
  (vb_one (vs_expr (ve_app rfl (pv 2) (ve_str (pe_glob (v := .str "far") (by rfl) T.c_FAR ⟨_, rfl⟩)))))
  vb_nil)
  (vb_cons (vs_if (vt_not (vt_tru rfl (vo_of (ve_call D_is_lasting.ok (hr.mono (by first | decide | omega)) (by rfl) D_is_lasting.m D_is_lasting.kp D_is_lasting.b .nil (fun _ _ => .nil) pass0 (va_cons (vo_var (pv 0)) (va_cons (vo_var (pv 1)) va_nil))))))
  (vb_one (vs_expr (ve_app rfl (pv 2) (ve_str (pe_glob (v := .str "gone") (by rfl) T.c_GONE ⟨_, rfl⟩)))))
  vb_nil)
  (vb_cons (vs_if (vt_cmp op_le os_le (vo_of (ve_call D_near_slack.ok (hr.mono (by first | decide | omega)) (by rfl) D_near_slack.m D_near_slack.kp D_near_slack.b .nil (fun _ _ => .nil) pass0 (va_cons (vo_var (pv 0)) (va_cons (vo_var (pv 1)) va_nil)))) (vo_of (ve_int pe_int)) (nomark _))
  (vb_one (vs_expr (ve_app rfl (pv 2) (ve_str (pe_glob (v := .str "near") (by rfl) T.c_NEAR ⟨_, rfl⟩)))))
  vb_nil)
  (vb_one (vs_ret (ve_ct (kcall_tuple_of rfl) cs_tuple (by rfl) T.tuple (by decide +kernel) (va_cons (vo_var (pv 2)) va_nil)))))))) h)
theorem ok_plain_slack {f : Addr} {fd : FuncData} (F : Fun K "plain_slack" "plain_slack" s_plain_slack f fd) (T : Txt K mg) : FnOk P w K mg base CX0 1 f fd ["numbers", "spread"] (spV (gxOf K w mg) W_plain_slack) := by
  refine F.ok sc_plain_slack (fun vs H Q E h => spV_len (fun h => h.1) h) (fun cdv A outer s H vs Q E hr h => okV (N := N_plain_slack) rfl
  (vb_one (vs_ret (ve_op op_sub os_sub (vo_of (ve_op op_sub os_sub (vo_of (ve_op op_sub os_sub (vo_of (ve_op op_sub os_sub (vo_of (ve_op (op_addP rfl) os_add (vo_of (ve_fld rfl (ve_var (pv 0)) rfl)) (vo_of (ve_fld rfl (ve_var (pv 0)) rfl)))) (vo_of (ve_fld rfl (ve_var (pv 0)) rfl)))) (vo_var (pv 1)))) (vo_of (ve_op (op_mulP rfl) os_mul (vo_of (ve_int pe_int)) (vo_of (ve_fld rfl (ve_var (pv 0)) rfl)))))) (vo_of (ve_fld rfl (ve_var (pv 0)) rfl))))) h)
theorem ok_plain_lasts {f : Addr} {fd : FuncData} (F : Fun K "plain_lasts" "plain_lasts" s_plain_lasts f fd) (T : Txt K mg) (D_plain_slack : Df P w K mg base 1 "plain_slack" ["numbers", "spread"] (spV (gxOf K w mg) W_plain_slack)) : FnOk P w K mg base CX0 2 f fd ["numbers", "spread"] (spV (gxOf K w mg) W_plain_lasts) := by
  refine F.ok sc_plain_lasts (fun vs H Q E h => spV_len (fun h => h.1) h) (fun cdv A outer s H vs Q E hr h => okV (N := N_plain_lasts) rfl
  (vb_cons (vs_if (vt_cmp (kop_eqD rfl hr.units) os_eq (vo_var (pv 1)) (vo_of (ve_int pe_int)) (nomark _))
  (vb_one (vs_ret (ve_cmp op_ge os_ge (vo_of (ve_fld rfl (ve_var (pv 0)) rfl)) (vo_of (ve_op (op_addP rfl) os_add (vo_of (ve_op (op_mulP rfl) os_mul (vo_of (ve_int pe_int)) (vo_of (ve_fld rfl (ve_var (pv 0)) rfl)))) (vo_of (ve_fld rfl (ve_var (pv 0)) rfl)))) (nomark _))))
  vb_nil)
  (vb_one (vs_ret (ve_cmp op_ge os_ge (vo_of (ve_call D_plain_slack.ok (hr.mono (by first | decide | omega)) (by rfl) D_plain_slack.m D_plain_slack.kp D_plain_slack.b .nil (fun _ _ => .nil) pass0 (va_cons (vo_var (pv 0)) (va_cons (vo_var (pv 1)) va_nil)))) (vo_of (ve_int pe_int)) (nomark _))))) h)
theorem ok_plain_words {f : Addr} {fd : FuncData} (F : Fun K "plain_words" "plain_words" s_plain_words f fd) (T : Txt K mg) (D_plain_lasts : Df P w K mg base 2 "plain_lasts" ["numbers", "spread"] (spV (gxOf K w mg) W_plain_lasts)) : FnOk P w K mg base CX0 3 f fd ["numbers", "spread"] (spV (gxOf K w mg) W_plain_words) := by
  refine F.ok sc_plain_words (fun vs H Q E h => spV_len (fun h => h.1) h) (fun cdv A outer s H vs Q E hr h => okV (N := N_plain_words) rfl
  (vb_cons (vs_set (i := 2) sc_plain_words.nd rfl (by first | exact Or.inl rfl | exact Or.inr rfl) (ve_op (op_addP rfl) os_add (vo_of (ve_op op_sub os_sub (vo_of (ve_op op_sub os_sub (vo_of (ve_fld rfl (ve_var (pv 0)) rfl)) (vo_of (ve_op (op_mulP rfl) os_mul (vo_of (ve_int pe_int)) (vo_of (ve_fld rfl (ve_var (pv 0)) rfl)))))) (vo_of (ve_fld rfl (ve_var (pv 0)) rfl)))) (vo_of (ve_int pe_int))))
  (vb_cons (vs_if (vt_cmp op_le os_le (vo_var (pv 2)) (vo_of (ve_int pe_int)) (nomark _))
  (vb_one (vs_ret (ve_int pe_int)))
  vb_nil)
  (vb_cons (vs_if (vt_cmp op_le os_le (vo_var (pv 2)) (vo_var (pv 1)) (nomark _))
  (vb_one (vs_ret (ve_int pe_int)))
  vb_nil)
  (vb_cons (vs_if (VW.vt (vw_or (vt_tru rfl (vo_of (ve_call D_plain_lasts.ok (hr.mono (by first | decide | omega)) (by rfl) D_plain_lasts.m D_plain_lasts.kp D_plain_lasts.b .nil (fun _ _ => .nil) pass0 (va_cons (vo_var (pv 0)) (va_cons (vo_var (pv 1)) va_nil))))) (vw_or1 (vt_cmp (kop_eqD rfl hr.units) os_eq (vo_var (pv 1)) (vo_of (ve_int pe_int)) (nomark _)))))
  (vb_one (vs_ret (ve_non pe_non)))
  vb_nil)
  (vb_one (vs_ret (ve_op (op_addP rfl) os_add (vo_of (ve_op (op_mulP rfl) os_mul (vo_of (ve_op op_sub os_sub (vo_of (ve_op op_fdivW os_div (vo_of (ve_op op_sub os_sub (vo_of (ve_op (op_addP rfl) os_add (vo_var (pv 2)) (vo_var (pv 1)))) (vo_of (ve_int pe_int)))) (vo_var (pv 1)))) (vo_of (ve_int pe_int)))) (vo_of (ve_fld rfl (ve_var (pv 0)) rfl)))) (vo_of (ve_int pe_int))))))))) h)
theorem ok_plain_reads {f : Addr} {fd : FuncData} (F : Fun K "plain_reads" "plain_reads" s_plain_reads f fd) (T : Txt K mg) : FnOk P w K mg base CX0 1 f fd ["numbers", "spread", "r"] (spV (gxOf K w mg) W_plain_reads) := by
  refine F.ok sc_plain_reads (fun vs H Q E h => spV_len (fun h => h.1) h) (fun cdv A outer s H vs Q E hr h => okV (N := N_plain_reads) rfl
  (vb_cons (vs_set (i := 3) sc_plain_reads.nd rfl (by first | exact Or.inl rfl | exact Or.inr rfl) (ve_cmp op_ge os_ge (vo_of (ve_op (op_addP rfl) os_add (vo_var (pv 2)) (vo_of (ve_fld rfl (ve_var (pv 0)) rfl)))) (vo_of (ve_op (op_addP rfl) os_add (vo_of (ve_op (op_addP rfl) os_add (vo_of (ve_op (op_addP rfl) os_add (vo_of (ve_fld rfl (ve_var (pv 0)) rfl)) (vo_var (pv 1)))) (vo_of (ve_op (op_mulP rfl) os_mul (vo_of (ve_int pe_int)) (vo_of (ve_fld rfl (ve_var (pv 0)) rfl)))))) (vo_of (ve_fld rfl (ve_var (pv 0)) rfl)))) (nomark _)))
  (vb_one (vs_ret (ve_tup (va_cons (vo_of (ve_var (pv 3))) (va_cons (vo_of (ve_and (ve_var (pv 3)) (ve_one (ve_or (ve_cmp (kop_eqD rfl hr.units) os_eq (vo_var (pv 1)) (vo_of (ve_int pe_int)) (nomark _)) (ve_one (ve_cmp op_gt os_gt (vo_of (ve_op (op_addP rfl) os_add (vo_var (pv 2)) (vo_of (ve_fld rfl (ve_var (pv 0)) rfl)))) (vo_of (ve_op (op_addP rfl) os_add (vo_of (ve_op (op_addP rfl) os_add (vo_of (ve_fld rfl (ve_var (pv 0)) rfl)) (vo_var (pv 1)))) (vo_of (ve_fld rfl (ve_var (pv 0)) rfl)))) (nomark _))))))) va_nil)))))) h)
theorem ok_plain_copies {f : Addr} {fd : FuncData} (F : Fun K "plain_copies" "plain_copies" s_plain_copies f fd) (T : Txt K mg) : FnOk P w K mg base CX0 1 f fd ["f", "spread", "m"] (spV (gxOf K w mg) W_plain_copies) := by
  refine F.ok sc_plain_copies (fun vs H Q E h => spV_len (fun h => h.1) h) (fun cdv A outer s H vs Q E hr h => okV (N := N_plain_copies) rfl
  (vb_one (vs_ret (ve_op (op_addP rfl) os_add (vo_of (ve_op (op_addP rfl) os_add (vo_of (ve_op (op_mulP rfl) os_mul (vo_of (ve_int pe_int)) (vo_var (pv 0)))) (vo_var (pv 1)))) (vo_var (pv 2))))) h)
theorem ok_bound_of {f : Addr} {fd : FuncData} (F : Fun K "bound_of" "bound_of" s_bound_of f fd) (T : Txt K mg) : FnOk P w K mg base CX0 1 f fd ["numbers", "spread"] (spV (gxOf K w mg) W_bound_of) := by
  refine F.ok sc_bound_of (fun vs H Q E h => spV_len (fun h => h.1) h) (fun cdv A outer s H vs Q E hr h => okV (N := N_bound_of) rfl
  (vb_one (vs_ret (ve_op (op_addP rfl) os_add (vo_of (ve_op (op_addP rfl) os_add (vo_of (ve_fld rfl (ve_var (pv 0)) rfl)) (vo_var (pv 1)))) (vo_of (ve_fld rfl (ve_var (pv 0)) rfl))))) h)
theorem ok_sees {f : Addr} {fd : FuncData} (F : Fun K "sees" "sees" s_sees f fd) (T : Txt K mg) (D_bound_of : Df P w K mg base 1 "bound_of" ["numbers", "spread"] (spV (gxOf K w mg) W_bound_of)) : FnOk P w K mg base CX0 2 f fd ["numbers", "spread", "r"] (spV (gxOf K w mg) W_sees) := by
  refine F.ok sc_sees (fun vs H Q E h => spV_len (fun h => h.1) h) (fun cdv A outer s H vs Q E hr h => okV (N := N_sees) rfl
  (vb_cons (vs_set (i := 3) sc_sees.nd rfl (by first | exact Or.inl rfl | exact Or.inr rfl) (ve_call D_bound_of.ok (hr.mono (by first | decide | omega)) (by rfl) D_bound_of.m D_bound_of.kp D_bound_of.b .nil (fun _ _ => .nil) pass0 (va_cons (vo_var (pv 0)) (va_cons (vo_var (pv 1)) va_nil))))
  (vb_cons (vs_set (i := 4) sc_sees.nd rfl (by first | exact Or.inl rfl | exact Or.inr rfl) (ve_cmp op_ge os_ge (vo_of (ve_op (op_addP rfl) os_add (vo_var (pv 2)) (vo_of (ve_fld rfl (ve_var (pv 0)) rfl)))) (vo_of (ve_op (op_addP rfl) os_add (vo_var (pv 3)) (vo_of (ve_fld rfl (ve_var (pv 0)) rfl)))) (nomark _)))
  (vb_one (vs_ret (ve_tup (va_cons (vo_of (ve_var (pv 4))) (va_cons (vo_of (ve_and (ve_var (pv 4)) (ve_one (ve_or (ve_cmp (kop_eqD rfl hr.units) os_eq (vo_var (pv 1)) (vo_of (ve_int pe_int)) (nomark _)) (ve_one (ve_cmp op_gt os_gt (vo_of (ve_op (op_addP rfl) os_add (vo_var (pv 2)) (vo_of (ve_fld rfl (ve_var (pv 0)) rfl)))) (vo_var (pv 3)) (nomark _))))))) va_nil))))))) h)
theorem ok_least_asked {f : Addr} {fd : FuncData} (F : Fun K "least_asked" "least_asked" s_least_asked f fd) (T : Txt K mg) (D_bound_of : Df P w K mg base 1 "bound_of" ["numbers", "spread"] (spV (gxOf K w mg) W_bound_of)) : FnOk P w K mg base CX0 2 f fd ["numbers", "spread"] (spV (gxOf K w mg) W_least_asked) := by
  refine F.ok sc_least_asked (fun vs H Q E h => spV_len (fun h => h.1) h) (fun cdv A outer s H vs Q E hr h => okV (N := N_least_asked) rfl
  (vb_cons (vs_set (i := 2) sc_least_asked.nd rfl (by first | exact Or.inl rfl | exact Or.inr rfl) (ve_call D_bound_of.ok (hr.mono (by first | decide | omega)) (by rfl) D_bound_of.m D_bound_of.kp D_bound_of.b .nil (fun _ _ => .nil) pass0 (va_cons (vo_var (pv 0)) (va_cons (vo_var (pv 1)) va_nil))))
  (vb_cons (vs_set (i := 3) sc_least_asked.nd rfl (by first | exact Or.inl rfl | exact Or.inr rfl) (ve_op op_sub os_sub (vo_of (ve_op (op_addP rfl) os_add (vo_var (pv 2)) (vo_of (ve_fld rfl (ve_var (pv 0)) rfl)))) (vo_of (ve_fld rfl (ve_var (pv 0)) rfl))))
  (vb_cons (vs_set (i := 4) sc_least_asked.nd rfl (by first | exact Or.inl rfl | exact Or.inr rfl) (ve_ifE (vt_cmp (kop_eqD rfl hr.units) os_eq (vo_var (pv 1)) (vo_of (ve_int pe_int)) (nomark _)) (ve_var (pv 3)) (ve_cb (cr_maxP rfl rfl (room65 hr)) cs_max (by rfl) T.max (by decide +kernel) (va_cons (vo_var (pv 3)) (va_cons (vo_of (ve_op op_sub os_sub (vo_of (ve_op (op_addP rfl) os_add (vo_var (pv 2)) (vo_of (ve_int pe_int)))) (vo_of (ve_fld rfl (ve_var (pv 0)) rfl)))) va_nil)))))
  (vb_one (vs_ret (ve_tup (va_cons (vo_of (ve_ifE (vt_cmp op_le os_le (vo_var (pv 3)) (vo_of (ve_fld rfl (ve_var (pv 0)) rfl)) (nomark _)) (ve_var (pv 3)) (ve_non pe_non))) (va_cons (vo_of (ve_ifE (vt_cmp op_le os_le (vo_var (pv 4)) (vo_of (ve_fld rfl (ve_var (pv 0)) rfl)) (nomark _)) (ve_var (pv 4)) (ve_non pe_non))) va_nil)))))))) h)
theorem ok_sees_with_ends {f : Addr} {fd : FuncData} (F : Fun K "sees_with_ends" "sees_with_ends" s_sees_with_ends f fd) (T : Txt K mg) (D_least_asked : Df P w K mg base 2 "least_asked" ["numbers", "spread"] (spV (gxOf K w mg) W_least_asked)) : FnOk P w K mg base CX0 3 f fd ["numbers", "spread"] (spV (gxOf K w mg) W_sees_with_ends) := by
  refine F.ok sc_sees_with_ends (fun vs H Q E h => spV_len (fun h => h.1) h) (fun cdv A outer s H vs Q E hr h => okV (N := N_sees_with_ends) rfl
  (vb_cons (vs_set (i := 2) sc_sees_with_ends.nd rfl (by first | exact Or.inl rfl | exact Or.inr rfl) (ve_ix rfl (vo_of (ve_call D_least_asked.ok (hr.mono (by first | decide | omega)) (by rfl) D_least_asked.m D_least_asked.kp D_least_asked.b .nil (fun _ _ => .nil) pass0 (va_cons (vo_var (pv 0)) (va_cons (vo_var (pv 1)) va_nil)))) (vo_of (ve_int pe_int)) (fun _ _ => rfl)))
  (vb_one (vs_ret (ve_and (ve_cmp op_notN os_notN (vo_var (pv 2)) (vo_of (ve_non pe_non)) (nomark _)) (ve_one (ve_cmp op_le os_le (vo_var (pv 2)) (vo_of (ve_op op_sub os_sub (vo_of (ve_fld rfl (ve_var (pv 0)) rfl)) (vo_of (ve_fld rfl (ve_var (pv 0)) rfl)))) (nomark _))))))) h)
theorem ok_Thin_init {f : Addr} {fd : FuncData} (F : Fun K "__init__" "Thin.__init__" s_Thin_init f fd) (T : Txt K mg) : FnOk P w K mg base CX0 1 f fd ["self", "p", "q", "ins", "others"] (spN (gxOf K w mg) "Thin" W_Thin_init) := by
  refine F.ok sc_Thin_init (fun vs H Q E h => spN_len (fun h => h.1) h) (fun cdv A outer s H vs Q E hr h => okN (N := N_Thin_init) rfl
  (vb_cons (vs_fldS (c := "Thin") rfl (T.n_Thin_p) (pv 0) (ve_var (pv 1)) rfl)
  (vb_cons (vs_fldS (c := "Thin") rfl (T.n_Thin_q) (pv 0) (ve_var (pv 2)) rfl)
  (vb_cons (vs_fldS (c := "Thin") rfl (T.n_Thin_ins) (pv 0) (ve_var (pv 3)) rfl)
  (vb_one (vs_fldS (c := "Thin") rfl (T.n_Thin_others) (pv 0) (ve_var (pv 4)) rfl))))) h)
theorem ok_only_first {f : Addr} {fd : FuncData} (F : Fun K "only_first" "only_first" s_only_first f fd) (T : Txt K mg) : FnOk P w K mg base CX0 1 f fd ["one", "other"] (spV (gxOf K w mg) W_only_first) := by
  refine F.ok sc_only_first (fun vs H Q E h => spV_len (fun h => h.1) h) (fun cdv A outer s H vs Q E hr h => okV (N := N_only_first) rfl
  (vb_one (vs_ret (ve_ct (kcall_tuple_of rfl) cs_tuple (by rfl) T.tuple (by decide +kernel) (va_cons (vo_of (ve_fz (vf_lc (own := [("x", 2)]) rfl sc_only_first.nd (vi_seq rfl (vo_var (pv 0))) (blkOk_by (own := [("x", 2)]) (N := N_only_first) (sc := defScope s_only_first) (by decide +kernel)) (fun _ _ _ _ _ => (vg_name (i := 2) sc_only_first.nd rfl (by first | exact Or.inl rfl | exact Or.inr rfl))) (fun _ _ _ _ _ => (vts_one (vt_cmp (op_notInP rfl (hu_of hr)) os_inP (vo_var (pv 2)) (vo_var (pv 1)) (by rfl)))) (fun _ _ _ _ _ => (ve_var (pv 2)))))) va_nil)))) h)
theorem ok_far_lots {f : Addr} {fd : FuncData} (F : Fun K "far_lots" "far_lots" s_far_lots f fd) (T : Txt K mg) (D_in_both : Df P w K mg base 1 "in_both" ["one", "other"] (spV (gxOf K w mg) W_in_both)) (D_only_first : Df P w K mg base 1 "only_first" ["one", "other"] (spV (gxOf K w mg) W_only_first)) : FnOk P w K mg base CX0 2 f fd ["one", "other", "many"] (spV (gxOf K w mg) W_far_lots) := by
  refine F.ok sc_far_lots (fun vs H Q E h => spV_len (fun h => h.1) h) (fun cdv A outer s H vs Q E hr h => okV (N := N_far_lots) rfl
  (vb_cons (vs_par3 (i := 3) (j := 4) (l := 5) rfl sc_far_lots.nd rfl rfl rfl  (by decide) (by decide) (by decide)  rfl rfl rfl  (vqs_cons (vq_v (ve_call D_in_both.ok (hr.mono (by first | decide | omega)) (by rfl) D_in_both.m D_in_both.kp D_in_both.b .nil (fun _ _ => .nil) pass0 (va_cons (vo_var (pv 0)) (va_cons (vo_var (pv 1)) va_nil)))) (vqs_cons (vq_v (ve_sl rfl (vo_of (ve_call D_only_first.ok (hr.mono (by first | decide | omega)) (by rfl) D_only_first.m D_only_first.kp D_only_first.b .nil (fun _ _ => .nil) pass0 (va_cons (vo_var (pv 0)) (va_cons (vo_var (pv 1)) va_nil)))) vp_none (vp_some (ve_var (pv 2))))) (vqs_cons (vq_v (ve_sl rfl (vo_of (ve_call D_only_first.ok (hr.mono (by first | decide | omega)) (by rfl) D_only_first.m D_only_first.kp D_only_first.b .nil (fun _ _ => .nil) pass0 (va_cons (vo_var (pv 1)) (va_cons (vo_var (pv 0)) va_nil)))) vp_none (vp_some (ve_var (pv 2))))) vqs_nil))) (by rfl))
  (vb_cons (vs_set (i := 6) sc_far_lots.nd rfl (by first | exact Or.inl rfl | exact Or.inr rfl) (ve_op op_sub os_sub (vo_var (pv 2)) (vo_of (ve_cb (cr_lenP rfl) cs_len (by rfl) T.len (by decide +kernel) (va_cons (vo_var (pv 4)) va_nil)))))
  (vb_cons (vs_set (i := 7) sc_far_lots.nd rfl (by first | exact Or.inl rfl | exact Or.inr rfl) (ve_ct (kcall_tuple_of rfl) cs_tuple (by rfl) T.tuple (by decide +kernel) (va_cons (vo_of (ve_fz (vf_cb (cr_sortedP3 rfl rfl rfl) csf_sortedP (by rfl) T.sorted (by decide +kernel) (va_cons (vo_of (ve_op (op_addP rfl) os_add (vo_var (pv 4)) (vo_of (ve_sl rfl (vo_var (pv 3)) vp_none (vp_some (ve_var (pv 6))))))) va_nil)))) va_nil)))
  (vb_cons (vs_set (i := 8) sc_far_lots.nd rfl (by first | exact Or.inl rfl | exact Or.inr rfl) (ve_ct (kcall_tuple_of rfl) cs_tuple (by rfl) T.tuple (by decide +kernel) (va_cons (vo_of (ve_fz (vf_cb (cr_sortedP3 rfl rfl rfl) csf_sortedP (by rfl) T.sorted (by decide +kernel) (va_cons (vo_of (ve_op (op_addP rfl) os_add (vo_var (pv 5)) (vo_of (ve_sl rfl (vo_var (pv 3)) (vp_some (ve_op op_sub os_sub (vo_of (ve_cb (cr_lenP rfl) cs_len (by rfl) T.len (by decide +kernel) (va_cons (vo_var (pv 3)) va_nil))) (vo_var (pv 6)))) vp_none)))) va_nil)))) va_nil)))
  (vb_one (vs_ret (ve_tup (va_cons (vo_of (ve_var (pv 7))) (va_cons (vo_of (ve_var (pv 8))) va_nil))))))))) h)
theorem ok_pairs_within {f : Addr} {fd : FuncData} (F : Fun K "pairs_within" "pairs_within" s_pairs_within f fd) (T : Txt K mg) : FnOk P w K mg base CX0 1 f fd ["course", "d"] (spV (gxOf K w mg) W_pairs_within) := by
  refine F.ok sc_pairs_within (fun vs H Q E h => spV_len (fun h => h.1) h) (fun cdv A outer s H vs Q E hr h => okV (N := N_pairs_within) rfl
  (vb_cons (vs_setF (i := 2) sc_pairs_within.nd rfl (by first | exact Or.inl rfl | exact Or.inr rfl) (vf_lst va_nil))
  (vb_cons (vs_for PassesOwn.never rfl (vi_rg1 (by rfl) T.range (va_cons (vo_of (ve_cb (cr_lenP rfl) cs_len (by rfl) T.len (by decide +kernel) (va_cons (vo_var (pv 0)) va_nil))) va_nil)) (vg_name (i := 3) sc_pairs_within.nd rfl (by first | exact Or.inl rfl | exact Or.inr rfl))
  (vb_one (vs_expr (ve_ext rfl (pv 2) (vo_of (ve_fz (vf_lc (own := [("q", 4)]) rfl sc_pairs_within.nd (vi_rg2 (by rfl) T.range (va_cons (vo_var (pv 3)) (va_cons (vo_of (ve_cb (cr_minP rfl rfl (room65 hr)) cs_min (by rfl) T.min (by decide +kernel) (va_cons (vo_of (ve_cb (cr_lenP rfl) cs_len (by rfl) T.len (by decide +kernel) (va_cons (vo_var (pv 0)) va_nil))) (va_cons (vo_of (ve_op (op_addP rfl) os_add (vo_of (ve_op (op_addP rfl) os_add (vo_var (pv 3)) (vo_var (pv 1)))) (vo_of (ve_int pe_int)))) va_nil)))) va_nil))) (blkOk_by (own := [("q", 4)]) (N := N_pairs_within) (sc := defScope s_pairs_within) (by decide +kernel)) (fun _ _ _ _ _ => (vg_name (i := 4) sc_pairs_within.nd rfl (by first | exact Or.inl rfl | exact Or.inr rfl))) (fun _ _ _ _ _ => vts_nil) (fun _ _ _ _ _ => (ve_tup (va_cons (vo_of (ve_var (pv 3))) (va_cons (vo_of (ve_var (pv 4))) va_nil)))))))))))
  (vb_one (vs_ret (ve_ct (kcall_tuple_of rfl) cs_tuple (by rfl) T.tuple (by decide +kernel) (va_cons (vo_var (pv 2)) va_nil)))))) h)
theorem ok_thin_of {f : Addr} {fd : FuncData} (F : Fun K "thin_of" "thin_of" s_thin_of f fd) (T : Txt K mg) (D_pairs_within : Df P w K mg base 1 "pairs_within" ["course", "d"] (spV (gxOf K w mg) W_pairs_within)) (D_far_lots : Df P w K mg base 2 "far_lots" ["one", "other", "many"] (spV (gxOf K w mg) W_far_lots)) (D_in_both : Df P w K mg base 1 "in_both" ["one", "other"] (spV (gxOf K w mg) W_in_both)) {fdI_Thin : FuncData} (GI_Thin : FnOk P w K mg base CX0 1 T.fI_Thin fdI_Thin ["self", "p", "q", "ins", "others"] (spN (gxOf K w mg) "Thin" W_Thin_init)) (bI_Thin : Binds K fdI_Thin ["self", "p", "q", "ins", "others"] []) : FnOk P w K mg base CX0 3 f fd ["course", "f", "d", "common"] (spV (gxOf K w mg) W_thin_of) := by
  refine F.ok sc_thin_of (fun vs H Q E h => spV_len (fun h => h.1) h) (fun cdv A outer s H vs Q E hr h => okV (N := N_thin_of) rfl
  (vb_cons (vs_for PassesOwn.never rfl (vi_seq rfl (vo_of (ve_call D_pairs_within.ok (hr.mono (by first | decide | omega)) (by rfl) D_pairs_within.m D_pairs_within.kp D_pairs_within.b .nil (fun _ _ => .nil) pass0 (va_cons (vo_var (pv 0)) (va_cons (vo_var (pv 2)) va_nil))))) (vg_tup rfl rfl (vgs_cons (vg_name (i := 4) sc_thin_of.nd rfl (by first | exact Or.inl rfl | exact Or.inr rfl)) (vgs_cons (vg_name (i := 5) sc_thin_of.nd rfl (by first | exact Or.inl rfl | exact Or.inr rfl)) vgs_nil)))
  (vb_cons (vs_asg (ve_call D_far_lots.ok (hr.mono (by first | decide | omega)) (by rfl) D_far_lots.m D_far_lots.kp D_far_lots.b .nil (fun _ _ => .nil) pass0 (va_cons (vo_of (ve_ix rfl (vo_var (pv 0)) (vo_var (pv 4)) (fun _ _ => rfl))) (va_cons (vo_of (ve_ix rfl (vo_var (pv 0)) (vo_var (pv 5)) (fun _ _ => rfl))) (va_cons (vo_of (ve_op op_sub os_sub (vo_of (ve_cb (cr_lenP rfl) cs_len (by rfl) T.len (by decide +kernel) (va_cons (vo_of (ve_ix rfl (vo_var (pv 0)) (vo_var (pv 4)) (fun _ _ => rfl))) va_nil))) (vo_var (pv 1)))) va_nil)))) (vg_tup rfl rfl (vgs_cons (vg_name (i := 6) sc_thin_of.nd rfl (by first | exact Or.inl rfl | exact Or.inr rfl)) (vgs_cons (vg_name (i := 7) sc_thin_of.nd rfl (by first | exact Or.inl rfl | exact Or.inr rfl)) vgs_nil))))
  (vb_one (vs_if (vt_cmp op_le os_le (vo_of (ve_cb (cr_lenP rfl) cs_len (by rfl) T.len (by decide +kernel) (va_cons (vo_of (ve_call D_in_both.ok (hr.mono (by first | decide | omega)) (by rfl) D_in_both.m D_in_both.kp D_in_both.b .nil (fun _ _ => .nil) pass0 (va_cons (vo_var (pv 6)) (va_cons (vo_var (pv 7)) va_nil)))) va_nil))) (vo_var (pv 3)) (nomark _))
  (vb_one (vs_ret (ve_make rfl T.m_Thin T.cl_Thin T.mk_Thin GI_Thin (hr.mono (by first | decide | omega)) (by rfl) T.m_Thin bI_Thin .nil (fun _ _ => .nil) pass0 (va_cons (vo_of (ve_var (pv 4))) (va_cons (vo_of (ve_var (pv 5))) (va_cons (vo_of (ve_var (pv 6))) (va_cons (vo_of (ve_var (pv 7))) va_nil)))))))
  vb_nil))))
  (vb_one (vs_ret (ve_non pe_non)))) h)
theorem ok__law_pick {f : Addr} {fd : FuncData} (F : Fun K "_law_pick" "_law_pick" s__law_pick f fd) (T : Txt K mg) (D__law_draw : Df P w K mg base 1 "_law_draw" ["heap", "many"] (spV (gxOf K w mg) W__law_draw)) : FnOk P w K mg base CX0 2 f fd ["heap", "some"] (spV (gxOf K w mg) W__law_pick) := by
  refine F.ok sc__law_pick (fun vs H Q E h => spV_len (fun h => h.1) h) (fun cdv A outer s H vs Q E hr h => okV (N := N__law_pick) rfl
  (vb_one (vs_ret (ve_ix rfl (vo_var (pv 1)) (vo_of (ve_call D__law_draw.ok (hr.mono (by first | decide | omega)) (by rfl) D__law_draw.m D__law_draw.kp D__law_draw.b .nil (fun _ _ => .nil) pass0 (va_cons (vo_var (pv 0)) (va_cons (vo_of (ve_cb (cr_lenP rfl) cs_len (by rfl) T.len (by decide +kernel) (va_cons (vo_var (pv 1)) va_nil))) va_nil)))) (fun _ _ => rfl)))) h)
theorem ok__law_mixed {f : Addr} {fd : FuncData} (F : Fun K "_law_mixed" "_law_mixed" s__law_mixed f fd) (T : Txt K mg) (D__law_draw : Df P w K mg base 1 "_law_draw" ["heap", "many"] (spV (gxOf K w mg) W__law_draw)) : FnOk P w K mg base CX0 2 f fd ["heap", "some"] (spV (gxOf K w mg) W__law_mixed) := by
  refine F.ok sc__law_mixed (fun vs H Q E h => spV_len (fun h => h.1) h) (fun cdv A outer s H vs Q E hr h => okV (N := N__law_mixed) rfl
  (vb_cons (vs_par2 (i := 2) (j := 3) rfl sc__law_mixed.nd rfl rfl  (by decide)  rfl rfl  (vqs_cons (vq_f (vf_ct (kcall_list_of rfl) csf_list (by rfl) T.list (by decide +kernel) (va_cons (vo_var (pv 1)) va_nil))) (vqs_cons (vq_f (vf_lst va_nil)) vqs_nil)) (by rfl))
  (vb_cons (vs_for PassesOwn.never rfl (vi_rg1 (by rfl) T.range (va_cons (vo_of (ve_cb (cr_lenP rfl) cs_len (by rfl) T.len (by decide +kernel) (va_cons (vo_var (pv 1)) va_nil))) va_nil)) (vg_name (i := 4) sc__law_mixed.nd rfl (by first | exact Or.inl rfl | exact Or.inr rfl))
  (vb_one (vs_expr (ve_app rfl (pv 3) (ve_popAt rfl (pv 2) (ve_call D__law_draw.ok (hr.mono (by first | decide | omega)) (by rfl) D__law_draw.m D__law_draw.kp D__law_draw.b .nil (fun _ _ => .nil) pass0 (va_cons (vo_var (pv 0)) (va_cons (vo_of (ve_cb (cr_lenP rfl) cs_len (by rfl) T.len (by decide +kernel) (va_cons (vo_var (pv 2)) va_nil))) va_nil))))))))
  (vb_one (vs_ret (ve_ct (kcall_tuple_of rfl) cs_tuple (by rfl) T.tuple (by decide +kernel) (va_cons (vo_var (pv 3)) va_nil)))))) h)
theorem ok__law_like_of {k : Nat} {W__law_like : WF1} {f : Addr} {fd : FuncData} (F : Fun K "_law_like" "_law_like" s__law_like f fd) (T : Txt K mg) (hk : 0 ≤ k) (D__law_like : Df P w K mg base k "_law_like" ["told", "due"] (spV (gxOf K w mg) W__law_like)) : FnOk P w K mg base CX0 (k + 1) f fd ["told", "due"] (spV (gxOf K w mg) (W__law_like_of W__law_like)) := by
  refine F.ok sc__law_like (fun vs H Q E h => spV_len (fun h => h.1) h) (fun cdv A outer s H vs Q E hr h => okV (N := N__law_like) rfl
  (vb_cons (vs_if (vt_tru rfl (vo_of (ve_isiB (cs := ["Numbers", "Thin"]) (U := .tuple) rfl (vo_var (pv 1)) (pe_ty "tuple" (by rfl) T.tuple) (by rfl) T.isinstance T.known (fun c hc C hC => T.kU c hc C hC _))))
  (vb_one (vs_ret (ve_and (ve_isiB (cs := ["Numbers", "Thin"]) (U := .tuple) rfl (vo_var (pv 0)) (pe_ty "tuple" (by rfl) T.tuple) (by rfl) T.isinstance T.known (fun c hc C hC => T.kU c hc C hC _)) (ve_and (ve_cmp (kop_eqD rfl hr.units) os_eq (vo_of (ve_cb (cr_lenP rfl) cs_len (by rfl) T.len (by decide +kernel) (va_cons (vo_var (pv 0)) va_nil))) (vo_of (ve_cb (cr_lenP rfl) cs_len (by rfl) T.len (by decide +kernel) (va_cons (vo_var (pv 1)) va_nil))) (nomark _)) (ve_one (ve_cb (kcr_all rfl rfl) cs_all (by rfl) T.all (by decide +kernel) (va_cons (vo_of (ve_fz (vf_lc (own := [("at", 2)]) rfl sc__law_like.nd (vi_rg1 (by rfl) T.range (va_cons (vo_of (ve_cb (cr_lenP rfl) cs_len (by rfl) T.len (by decide +kernel) (va_cons (vo_var (pv 1)) va_nil))) va_nil)) (blkOk_by (own := [("at", 2)]) (N := N__law_like) (sc := defScope s__law_like) (by decide +kernel)) (fun _ _ _ _ _ => (vg_name (i := 2) sc__law_like.nd rfl (by first | exact Or.inl rfl | exact Or.inr rfl))) (fun _ _ _ _ _ => vts_nil) (fun _ _ _ _ _ => (ve_call D__law_like.ok (hr.mono (by first | decide | omega)) (by rfl) D__law_like.m D__law_like.kp D__law_like.b .nil (fun _ _ => .nil) pass0 (va_cons (vo_of (ve_ix rfl (vo_var (pv 0)) (vo_var (pv 2)) (fun _ _ => rfl))) (va_cons (vo_of (ve_ix rfl (vo_var (pv 1)) (vo_var (pv 2)) (fun _ _ => rfl))) va_nil))))))) va_nil)))))))
  vb_nil)
  (vb_cons (vs_if (vt_cmp op_isN os_isN (vo_var (pv 1)) (vo_of (ve_non pe_non)) (nomark _))
  (vb_one (vs_ret (ve_cmp op_isN os_isN (vo_var (pv 0)) (vo_of (ve_non pe_non)) (nomark _))))
  vb_nil)
  (vb_cons (vs_if (vt_tru rfl (vo_of (ve_isiB (cs := ["Numbers", "Thin"]) (U := .bool) rfl (vo_var (pv 1)) (pe_ty "bool" (by rfl) T.bool) (by rfl) T.isinstance T.known (fun c hc C hC => T.kU c hc C hC _))))
  (vb_one (vs_ret (ve_ifE (vt_tru rfl (vo_var (pv 1))) (ve_cmp op_isBl os_isB (vo_var (pv 0)) (vo_of (ve_bl pe_bl)) (nomark _)) (ve_cmp op_isBl os_isB (vo_var (pv 0)) (vo_of (ve_bl pe_bl)) (nomark _)))))
  vb_nil)
  (vb_cons (vs_if (vt_tru rfl (vo_of (ve_isiB (cs := ["Numbers", "Thin"]) (U := .int) rfl (vo_var (pv 1)) (pe_ty "int" (by rfl) T.int) (by rfl) T.isinstance T.known (fun c hc C hC => T.kU c hc C hC _))))
  (vb_one (vs_ret (ve_and (ve_isiB (cs := ["Numbers", "Thin"]) (U := .int) rfl (vo_var (pv 0)) (pe_ty "int" (by rfl) T.int) (by rfl) T.isinstance T.known (fun c hc C hC => T.kU c hc C hC _)) (ve_and (ve_not (ve_isiB (cs := ["Numbers", "Thin"]) (U := .bool) rfl (vo_var (pv 0)) (pe_ty "bool" (by rfl) T.bool) (by rfl) T.isinstance T.known (fun c hc C hC => T.kU c hc C hC _))) (ve_one (ve_cmp (kop_eqD rfl hr.units) os_eq (vo_var (pv 0)) (vo_var (pv 1)) (nomark _)))))))
  vb_nil)
  (vb_one (vs_ret (ve_and (ve_isiB (cs := ["Numbers", "Thin"]) (U := .str) rfl (vo_var (pv 0)) (pe_ty "str" (by rfl) T.str) (by rfl) T.isinstance T.known (fun c hc C hC => T.kU c hc C hC _)) (ve_one (ve_cmp (kop_eqD rfl hr.units) os_eq (vo_var (pv 0)) (vo_var (pv 1)) (nomark _)))))))))) h)
theorem ok__law_some {f : Addr} {fd : FuncData} (F : Fun K "_law_some" "_law_some" s__law_some f fd) (T : Txt K mg) (D__law_mixed : Df P w K mg base 2 "_law_mixed" ["heap", "some"] (spV (gxOf K w mg) W__law_mixed)) : FnOk P w K mg base CX0 3 f fd ["heap", "some", "many"] (spV (gxOf K w mg) W__law_some) := by
  refine F.ok sc__law_some (fun vs H Q E h => spV_len (fun h => h.1) h) (fun cdv A outer s H vs Q E hr h => okV (N := N__law_some) rfl
  (vb_one (vs_ret (ve_ct (kcall_tuple_of rfl) cs_tuple (by rfl) T.tuple (by decide +kernel) (va_cons (vo_of (ve_fz (vf_cb (cr_sortedP3 rfl rfl rfl) csf_sortedP (by rfl) T.sorted (by decide +kernel) (va_cons (vo_of (ve_sl rfl (vo_of (ve_call D__law_mixed.ok (hr.mono (by first | decide | omega)) (by rfl) D__law_mixed.m D__law_mixed.kp D__law_mixed.b .nil (fun _ _ => .nil) pass0 (va_cons (vo_var (pv 0)) (va_cons (vo_var (pv 1)) va_nil)))) vp_none (vp_some (ve_var (pv 2))))) va_nil)))) va_nil)))) h)
theorem ok__law_lacks {f : Addr} {fd : FuncData} (F : Fun K "_law_lacks" "_law_lacks" s__law_lacks f fd) (T : Txt K mg) : FnOk P w K mg base CX0 1 f fd ["one", "other"] (spV (gxOf K w mg) W__law_lacks) := by
  refine F.ok sc__law_lacks (fun vs H Q E h => spV_len (fun h => h.1) h) (fun cdv A outer s H vs Q E hr h => okV (N := N__law_lacks) rfl
  (vb_one (vs_ret (ve_cb (cr_lenP rfl) cs_len (by rfl) T.len (by decide +kernel) (va_cons (vo_of (ve_fz (vf_lc (own := [("house", 2)]) rfl sc__law_lacks.nd (vi_seq rfl (vo_var (pv 1))) (blkOk_by (own := [("house", 2)]) (N := N__law_lacks) (sc := defScope s__law_lacks) (by decide +kernel)) (fun _ _ _ _ _ => (vg_name (i := 2) sc__law_lacks.nd rfl (by first | exact Or.inl rfl | exact Or.inr rfl))) (fun _ _ _ _ _ => (vts_one (vt_cmp (op_notInP rfl (hu_of hr)) os_inP (vo_var (pv 2)) (vo_var (pv 0)) (by rfl)))) (fun _ _ _ _ _ => (ve_var (pv 2)))))) va_nil)))) h)
theorem ok__law_gap {f : Addr} {fd : FuncData} (F : Fun K "_law_gap" "_law_gap" s__law_gap f fd) (T : Txt K mg) (D__law_lacks : Df P w K mg base 1 "_law_lacks" ["one", "other"] (spV (gxOf K w mg) W__law_lacks)) : FnOk P w K mg base CX0 2 f fd ["course", "d"] (spV (gxOf K w mg) W__law_gap) := by
  refine F.ok sc__law_gap (fun vs H Q E h => spV_len (fun h => h.1) h) (fun cdv A outer s H vs Q E hr h => okV (N := N__law_gap) rfl
  (vb_cons (vs_set (i := 2) sc__law_gap.nd rfl (by first | exact Or.inl rfl | exact Or.inr rfl) (ve_int pe_int))
  (vb_cons (vs_for PassesOwn.never rfl (vi_rg1 (by rfl) T.range (va_cons (vo_of (ve_cb (cr_lenP rfl) cs_len (by rfl) T.len (by decide +kernel) (va_cons (vo_var (pv 0)) va_nil))) va_nil)) (vg_name (i := 3) sc__law_gap.nd rfl (by first | exact Or.inl rfl | exact Or.inr rfl))
  (vb_one (vs_for PassesOwn.never rfl (vi_rg2 (by rfl) T.range (va_cons (vo_var (pv 3)) (va_cons (vo_of (ve_cb (cr_minP rfl rfl (room65 hr)) cs_min (by rfl) T.min (by decide +kernel) (va_cons (vo_of (ve_cb (cr_lenP rfl) cs_len (by rfl) T.len (by decide +kernel) (va_cons (vo_var (pv 0)) va_nil))) (va_cons (vo_of (ve_op (op_addP rfl) os_add (vo_of (ve_op (op_addP rfl) os_add (vo_var (pv 3)) (vo_var (pv 1)))) (vo_of (ve_int pe_int)))) va_nil)))) va_nil))) (vg_name (i := 4) sc__law_gap.nd rfl (by first | exact Or.inl rfl | exact Or.inr rfl))
  (vb_one (vs_set (i := 2) sc__law_gap.nd rfl (by first | exact Or.inl rfl | exact Or.inr rfl) (ve_cb (cr_maxP rfl rfl (room65 hr)) cs_max (by rfl) T.max (by decide +kernel) (va_cons (vo_var (pv 2)) (va_cons (vo_of (ve_call D__law_lacks.ok (hr.mono (by first | decide | omega)) (by rfl) D__law_lacks.m D__law_lacks.kp D__law_lacks.b .nil (fun _ _ => .nil) pass0 (va_cons (vo_of (ve_ix rfl (vo_var (pv 0)) (vo_var (pv 3)) (fun _ _ => rfl))) (va_cons (vo_of (ve_ix rfl (vo_var (pv 0)) (vo_var (pv 4)) (fun _ _ => rfl))) va_nil)))) va_nil))))))))
  (vb_one (vs_ret (ve_var (pv 2)))))) h)
theorem ok__law_line {f : Addr} {fd : FuncData} (F : Fun K "_law_line" "_law_line" s__law_line f fd) (T : Txt K mg) : FnOk P w K mg base CX0 1 f fd ["course", "d", "g", "p", "liars", "keepers", "need"] (spV (gxOf K w mg) W__law_line) := by
  refine F.ok sc__law_line (fun vs H Q E h => spV_len (fun h => h.1) h) (fun cdv A outer s H vs Q E hr h => okV (N := N__law_line) rfl
  (vb_cons (vs_set (i := 7) sc__law_line.nd rfl (by first | exact Or.inl rfl | exact Or.inr rfl) (ve_fz (vf_lc (own := [("house", 14)]) rfl sc__law_line.nd (vi_seq rfl (vo_of (ve_ix rfl (vo_var (pv 0)) (vo_of (ve_op (op_addP rfl) os_add (vo_var (pv 3)) (vo_var (pv 1)))) (fun _ _ => rfl)))) (blkOk_by (own := [("house", 14)]) (N := N__law_line) (sc := defScope s__law_line) (by decide +kernel)) (fun _ _ _ _ _ => (vg_name (i := 14) sc__law_line.nd rfl (by first | exact Or.inl rfl | exact Or.inr rfl))) (fun _ _ _ _ _ => (vts_one (VW.vt (vw_and (vt_cmp (op_notInP rfl (hu_of hr)) os_inP (vo_var (pv 14)) (vo_var (pv 5)) (by rfl)) (vw_and1 (vt_cmp (op_notInP rfl (hu_of hr)) os_inP (vo_var (pv 14)) (vo_var (pv 4)) (by rfl))))))) (fun _ _ _ _ _ => (ve_var (pv 14))))))
  (vb_cons (vs_parT (is := [8, 9, 10]) (vqs_cons (vq_f (vf_lst (va_cons (vo_of (ve_ct (kcall_tuple_of rfl) cs_tuple (by rfl) T.tuple (by decide +kernel) (va_cons (vo_var (pv 7)) va_nil))) va_nil))) (vqs_cons (vq_f (vf_lst va_nil)) (vqs_cons (vq_v (ve_op (op_addP rfl) os_add (vo_of (ve_fz (vf_ct (kcall_list_of rfl) csf_list (by rfl) T.list (by decide +kernel) (va_cons (vo_var (pv 4)) va_nil)))) (vo_of (ve_fz (vf_ct (kcall_list_of rfl) csf_list (by rfl) T.list (by decide +kernel) (va_cons (vo_var (pv 5)) va_nil)))))) vqs_nil))) (kpg_tup (K := K) (n := 3) rfl rfl (pgs_cons (pg_name (i := 8) sc__law_line.nd rfl (by first | exact Or.inl rfl | exact Or.inr rfl)) (pgs_cons (pg_name (i := 9) sc__law_line.nd rfl (by first | exact Or.inl rfl | exact Or.inr rfl)) (pgs_cons (pg_name (i := 10) sc__law_line.nd rfl (by first | exact Or.inl rfl | exact Or.inr rfl)) pgs_nil)))))
  (vb_cons (vs_for PassesOwn.never rfl (vi_rg2 (by rfl) T.range (va_cons (vo_of (ve_op (op_addP rfl) os_add (vo_var (pv 3)) (vo_var (pv 1)))) (va_cons (vo_of (ve_op op_sub os_sub (vo_of (ve_cb (cr_lenP rfl) cs_len (by rfl) T.len (by decide +kernel) (va_cons (vo_var (pv 0)) va_nil))) (vo_of (ve_int pe_int)))) va_nil))) (vg_name (i := 11) sc__law_line.nd rfl (by first | exact Or.inl rfl | exact Or.inr rfl))
  (vb_cons (vs_setLcV (i := 12) (own := [("house", 14)]) rfl sc__law_line.nd rfl rfl (sw_true rfl rfl rfl (by decide +kernel)) (vi_seq rfl (vo_of (ve_ix rfl (vo_var (pv 0)) (vo_of (ve_op (op_addP rfl) os_add (vo_var (pv 11)) (vo_of (ve_int pe_int)))) (fun _ _ => rfl)))) (blkOk_by (own := [("house", 14)]) (N := N__law_line) (sc := defScope s__law_line) (by decide +kernel)) (fun _ _ _ _ _ => (vg_name (i := 14) sc__law_line.nd rfl (by first | exact Or.inl rfl | exact Or.inr rfl))) (fun _ _ _ _ _ => (vts_one (vt_cmp (op_notInP rfl (hu_of hr)) os_inP (vo_var (pv 14)) (vo_of (ve_ix rfl (vo_var (pv 0)) (vo_var (pv 11)) (fun _ _ => rfl))) (by rfl)))) (fun _ _ _ _ _ => (ve_var (pv 14))))
  (vb_cons (vs_setLcV (i := 13) (own := [("house", 14)]) rfl sc__law_line.nd rfl rfl (sw_true rfl rfl rfl (by decide +kernel)) (vi_seq rfl (vo_of (ve_ix rfl (vo_var (pv 0)) (vo_of (ve_op (op_addP rfl) os_add (vo_var (pv 11)) (vo_of (ve_int pe_int)))) (fun _ _ => rfl)))) (blkOk_by (own := [("house", 14)]) (N := N__law_line) (sc := defScope s__law_line) (by decide +kernel)) (fun _ _ _ _ _ => (vg_name (i := 14) sc__law_line.nd rfl (by first | exact Or.inl rfl | exact Or.inr rfl))) (fun _ _ _ _ _ => (vts_one (vt_cmp (op_inP rfl (hu_of hr)) os_inP (vo_var (pv 14)) (vo_var (pv 7)) (by rfl)))) (fun _ _ _ _ _ => (ve_var (pv 14))))
  (vb_cons (vs_if (vt_cmp op_gt os_gt (vo_of (ve_op (op_addP rfl) os_add (vo_of (ve_cb (cr_lenP rfl) cs_len (by rfl) T.len (by decide +kernel) (va_cons (vo_var (pv 7)) va_nil))) (vo_of (ve_cb (cr_lenP rfl) cs_len (by rfl) T.len (by decide +kernel) (va_cons (vo_of (ve_fz (vf_lc (own := [("house", 14)]) rfl sc__law_line.nd (vi_seq rfl (vo_of (ve_ix rfl (vo_var (pv 0)) (vo_var (pv 11)) (fun _ _ => rfl)))) (blkOk_by (own := [("house", 14)]) (N := N__law_line) (sc := defScope s__law_line) (by decide +kernel)) (fun _ _ _ _ _ => (vg_name (i := 14) sc__law_line.nd rfl (by first | exact Or.inl rfl | exact Or.inr rfl))) (fun _ _ _ _ _ => (vts_one (vt_cmp (op_inP rfl (hu_of hr)) os_inP (vo_var (pv 14)) (vo_var (pv 4)) (by rfl)))) (fun _ _ _ _ _ => (ve_var (pv 14)))))) va_nil))))) (vo_of (ve_op op_sub os_sub (vo_var (pv 2)) (vo_var (pv 6)))) (nomark _))
  (vb_cons (vs_expr (ve_app rfl (pv 9) (ve_var (pv 11))))
  (vb_one (vs_set (i := 13) sc__law_line.nd rfl (by first | exact Or.inl rfl | exact Or.inr rfl) (ve_op (op_addP rfl) os_add (vo_var (pv 13)) (vo_of (ve_fz (vf_lc (own := [("house", 14)]) rfl sc__law_line.nd (vi_seq rfl (vo_var (pv 12))) (blkOk_by (own := [("house", 14)]) (N := N__law_line) (sc := defScope s__law_line) (by decide +kernel)) (fun _ _ _ _ _ => (vg_name (i := 14) sc__law_line.nd rfl (by first | exact Or.inl rfl | exact Or.inr rfl))) (fun _ _ _ _ _ => (vts_one (vt_cmp (op_notInP rfl (hu_of hr)) os_inP (vo_var (pv 14)) (vo_var (pv 10)) (by rfl)))) (fun _ _ _ _ _ => (ve_var (pv 14))))))))))
  (vb_one (vs_set (i := 10) sc__law_line.nd rfl (by first | exact Or.inl rfl | exact Or.inr rfl) (ve_op (op_addP rfl) os_add (vo_var (pv 10)) (vo_var (pv 12))))))
  (vb_cons (vs_set (i := 7) sc__law_line.nd rfl (by first | exact Or.inl rfl | exact Or.inr rfl) (ve_fz (vf_cb (cr_sortedP3 rfl rfl rfl) csf_sortedP (by rfl) T.sorted (by decide +kernel) (va_cons (vo_var (pv 13)) va_nil))))
  (vb_one (vs_expr (ve_app rfl (pv 8) (ve_ct (kcall_tuple_of rfl) cs_tuple (by rfl) T.tuple (by decide +kernel) (va_cons (vo_var (pv 7)) va_nil))))))))))
  (vb_one (vs_ret (ve_tup (va_cons (vo_of (ve_ct (kcall_tuple_of rfl) cs_tuple (by rfl) T.tuple (by decide +kernel) (va_cons (vo_var (pv 8)) va_nil))) (va_cons (vo_of (ve_ct (kcall_tuple_of rfl) cs_tuple (by rfl) T.tuple (by decide +kernel) (va_cons (vo_var (pv 9)) va_nil))) va_nil)))))))) h)
theorem ok__law_slow {f : Addr} {fd : FuncData} (F : Fun K "_law_slow" "_law_slow" s__law_slow f fd) (T : Txt K mg) (D__law_draw : Df P w K mg base 1 "_law_draw" ["heap", "many"] (spV (gxOf K w mg) W__law_draw)) (D__law_mixed : Df P w K mg base 2 "_law_mixed" ["heap", "some"] (spV (gxOf K w mg) W__law_mixed)) : FnOk P w K mg base CX0 3 f fd ["heap", "k", "most", "d", "houses", "words"] (spV (gxOf K w mg) W__law_slow) := by
  refine F.ok sc__law_slow (fun vs H Q E h => spV_len (fun h => h.1) h) (fun cdv A outer s H vs Q E hr h => okV (N := N__law_slow) rfl
  (vb_cons (vs_parT (is := [6, 7, 8]) (vqs_cons (vq_v (ve_rgT1 rfl (by rfl) T.tuple (by rfl) T.range (ve_var (pv 1)))) (vqs_cons (vq_f (vf_lst va_nil)) (vqs_cons (vq_f (vf_lst (va_cons (vo_of (ve_rgT1 rfl (by rfl) T.tuple (by rfl) T.range (ve_var (pv 1)))) va_nil))) vqs_nil))) (kpg_tup (K := K) (n := 3) rfl rfl (pgs_cons (pg_name (i := 6) sc__law_slow.nd rfl (by first | exact Or.inl rfl | exact Or.inr rfl)) (pgs_cons (pg_name (i := 7) sc__law_slow.nd rfl (by first | exact Or.inl rfl | exact Or.inr rfl)) (pgs_cons (pg_name (i := 8) sc__law_slow.nd rfl (by first | exact Or.inl rfl | exact Or.inr rfl)) pgs_nil)))))
  (vb_cons (vs_for PassesOwn.never rfl (vi_rg1 (by rfl) T.range (va_cons (vo_var (pv 5)) va_nil)) (vg_name (i := 9) sc__law_slow.nd rfl (by first | exact Or.inl rfl | exact Or.inr rfl))
  (vb_cons (vs_set (i := 10) sc__law_slow.nd rfl (by first | exact Or.inl rfl | exact Or.inr rfl) (ve_op op_sub os_sub (vo_var (pv 2)) (vo_of (ve_cb (kcr_sum rfl rfl) cs_sum (by rfl) T.sum (by decide +kernel) (va_cons (vo_of (ve_ifE (vt_cmp op_gt os_gt (vo_var (pv 3)) (vo_of (ve_int pe_int)) (nomark _)) (ve_sl rfl (vo_var (pv 7)) (vp_some (ve_op op_sub os_sub (vo_of (ve_int pe_int)) (vo_var (pv 3)))) vp_none) (ve_fz (vf_lst va_nil)))) va_nil)))))
  (vb_cons (vs_setLcV (i := 11) (own := [("house", 13)]) rfl sc__law_slow.nd rfl rfl (sw_true rfl rfl rfl (by decide +kernel)) (vi_rg1 (by rfl) T.range (va_cons (vo_var (pv 4)) va_nil)) (blkOk_by (own := [("house", 13)]) (N := N__law_slow) (sc := defScope s__law_slow) (by decide +kernel)) (fun _ _ _ _ _ => (vg_name (i := 13) sc__law_slow.nd rfl (by first | exact Or.inl rfl | exact Or.inr rfl))) (fun _ _ _ _ _ => (vts_one (vt_cmp (op_notInP rfl (hu_of hr)) os_inP (vo_var (pv 13)) (vo_var (pv 6)) (by rfl)))) (fun _ _ _ _ _ => (ve_var (pv 13))))
  (vb_cons (vs_set (i := 12) sc__law_slow.nd rfl (by first | exact Or.inl rfl | exact Or.inr rfl) (ve_ifE (vt_cmp (kop_eqD rfl hr.units) os_eq (vo_of (ve_call D__law_draw.ok (hr.mono (by first | decide | omega)) (by rfl) D__law_draw.m D__law_draw.kp D__law_draw.b .nil (fun _ _ => .nil) pass0 (va_cons (vo_var (pv 0)) (va_cons (vo_of (ve_int pe_int)) va_nil)))) (vo_of (ve_int pe_int)) (nomark _)) (ve_cb (cr_minP rfl rfl (room65 hr)) cs_min (by rfl) T.min (by decide +kernel) (va_cons (vo_var (pv 10)) (va_cons (vo_of (ve_cb (cr_lenP rfl) cs_len (by rfl) T.len (by decide +kernel) (va_cons (vo_var (pv 11)) va_nil))) (va_cons (vo_var (pv 1)) va_nil)))) (ve_cb (cr_minP rfl rfl (room65 hr)) cs_min (by rfl) T.min (by decide +kernel) (va_cons (vo_of (ve_call D__law_draw.ok (hr.mono (by first | decide | omega)) (by rfl) D__law_draw.m D__law_draw.kp D__law_draw.b .nil (fun _ _ => .nil) pass0 (va_cons (vo_var (pv 0)) (va_cons (vo_of (ve_op (op_addP rfl) os_add (vo_of (ve_cb (cr_maxP rfl rfl (room65 hr)) cs_max (by rfl) T.max (by decide +kernel) (va_cons (vo_of (ve_int pe_int)) (va_cons (vo_var (pv 10)) va_nil)))) (vo_of (ve_int pe_int)))) va_nil)))) (va_cons (vo_of (ve_cb (cr_lenP rfl) cs_len (by rfl) T.len (by decide +kernel) (va_cons (vo_var (pv 11)) va_nil))) (va_cons (vo_var (pv 1)) va_nil))))))
  (vb_cons (vs_set (i := 6) sc__law_slow.nd rfl (by first | exact Or.inl rfl | exact Or.inr rfl) (ve_ct (kcall_tuple_of rfl) cs_tuple (by rfl) T.tuple (by decide +kernel) (va_cons (vo_of (ve_fz (vf_cb (cr_sortedP3 rfl rfl rfl) csf_sortedP (by rfl) T.sorted (by decide +kernel) (va_cons (vo_of (ve_op (op_addP rfl) os_add (vo_of (ve_sl rfl (vo_of (ve_call D__law_mixed.ok (hr.mono (by first | decide | omega)) (by rfl) D__law_mixed.m D__law_mixed.kp D__law_mixed.b .nil (fun _ _ => .nil) pass0 (va_cons (vo_var (pv 0)) (va_cons (vo_var (pv 6)) va_nil)))) (vp_some (ve_var (pv 12))) vp_none)) (vo_of (ve_sl rfl (vo_of (ve_call D__law_mixed.ok (hr.mono (by first | decide | omega)) (by rfl) D__law_mixed.m D__law_mixed.kp D__law_mixed.b .nil (fun _ _ => .nil) pass0 (va_cons (vo_var (pv 0)) (va_cons (vo_var (pv 11)) va_nil)))) vp_none (vp_some (ve_var (pv 12))))))) va_nil)))) va_nil)))
  (vb_cons (vs_expr (ve_app rfl (pv 7) (ve_var (pv 12))))
  (vb_one (vs_expr (ve_app rfl (pv 8) (ve_var (pv 6)))))))))))
  (vb_one (vs_ret (ve_ct (kcall_tuple_of rfl) cs_tuple (by rfl) T.tuple (by decide +kernel) (va_cons (vo_var (pv 8)) va_nil)))))) h)
theorem ok__law_stairs {f : Addr} {fd : FuncData} (F : Fun K "_law_stairs" "_law_stairs" s__law_stairs f fd) (T : Txt K mg) : FnOk P w K mg base CX0 1 f fd ["k", "f", "most", "d", "words"] (spV (gxOf K w mg) W__law_stairs) := by
  refine F.ok sc__law_stairs (fun vs H Q E h => spV_len (fun h => h.1) h) (fun cdv A outer s H vs Q E hr h => okV (N := N__law_stairs) rfl
  (vb_cons (vs_par2 (i := 5) (j := 6) rfl sc__law_stairs.nd rfl rfl  (by decide)  rfl rfl  (vqs_cons (vq_f (vf_lst (va_cons (vo_of (ve_rgT1 rfl (by rfl) T.tuple (by rfl) T.range (ve_var (pv 0)))) va_nil))) (vqs_cons (vq_v (ve_int pe_int)) vqs_nil)) (by rfl))
  (vb_cons (vs_for PassesOwn.never rfl (vi_rg1 (by rfl) T.range (va_cons (vo_var (pv 4)) va_nil)) (vg_name (i := 7) sc__law_stairs.nd rfl (by first | exact Or.inl rfl | exact Or.inr rfl))
  (vb_cons (vs_set (i := 6) sc__law_stairs.nd rfl (by first | exact Or.inl rfl | exact Or.inr rfl) (ve_cb (cr_minP rfl rfl (room65 hr)) cs_min (by rfl) T.min (by decide +kernel) (va_cons (vo_of (ve_op op_sub os_sub (vo_var (pv 0)) (vo_var (pv 1)))) (va_cons (vo_of (ve_op (op_addP rfl) os_add (vo_var (pv 6)) (vo_of (ve_ifE (vt_cmp (kop_eqD rfl hr.units) os_eq (vo_of (ve_op op_mod os_mod (vo_of (ve_ct (call_int1) cs_int (by rfl) T.int (by decide +kernel) (va_cons (vo_var (pv 7)) va_nil))) (vo_var (pv 3)))) (vo_of (ve_int pe_int)) (nomark _)) (ve_var (pv 2)) (ve_int pe_int))))) va_nil))))
  (vb_one (vs_expr (ve_app rfl (pv 5) (ve_ct (kcall_tuple_of rfl) cs_tuple (by rfl) T.tuple (by decide +kernel) (va_cons (vo_of (ve_op (op_addP rfl) os_add (vo_of (ve_fz (vf_rgL1 rfl (by rfl) T.list (by rfl) T.range (ve_var (pv 1))))) (vo_of (ve_fz (vf_rgL rfl (by rfl) T.list (by rfl) T.range (ve_op (op_addP rfl) os_add (vo_var (pv 1)) (vo_var (pv 6))) (ve_op (op_addP rfl) os_add (vo_var (pv 0)) (vo_var (pv 6)))))))) va_nil)))))))
  (vb_one (vs_ret (ve_ct (kcall_tuple_of rfl) cs_tuple (by rfl) T.tuple (by decide +kernel) (va_cons (vo_var (pv 5)) va_nil)))))) h)
theorem ok__law_never_open {f : Addr} {fd : FuncData} (F : Fun K "_law_never_open" "_law_never_open" s__law_never_open f fd) (T : Txt K mg) (D__law_slow : Df P w K mg base 3 "_law_slow" ["heap", "k", "most", "d", "houses", "words"] (spV (gxOf K w mg) W__law_slow)) (D__law_gap : Df P w K mg base 2 "_law_gap" ["course", "d"] (spV (gxOf K w mg) W__law_gap)) (D__law_draw : Df P w K mg base 1 "_law_draw" ["heap", "many"] (spV (gxOf K w mg) W__law_draw)) (D__law_mixed : Df P w K mg base 2 "_law_mixed" ["heap", "some"] (spV (gxOf K w mg) W__law_mixed)) (D__law_line : Df P w K mg base 1 "_law_line" ["course", "d", "g", "p", "liars", "keepers", "need"] (spV (gxOf K w mg) W__law_line)) (D__law_some : Df P w K mg base 3 "_law_some" ["heap", "some", "many"] (spV (gxOf K w mg) W__law_some)) (D__law_like : Df P w K mg base 4 "_law_like" ["told", "due"] (spV (gxOf K w mg) W__law_like)) (D_blanks : Df P w K mg base 3 "blanks" ["course", "numbers", "p", "liars", "keepers", "need"] (spV (gxOf K w mg) W_blanks)) (D_open_words : Df P w K mg base 3 "open_words" ["course", "numbers", "p", "liars", "keepers", "need"] (spV (gxOf K w mg) W_open_words)) {fdI_Numbers : FuncData} (GI_Numbers : FnOk P w K mg base CX0 3 T.fI_Numbers fdI_Numbers ["self", "k", "f", "d", "m", "w1", "w2", "g"] (spN (gxOf K w mg) "Numbers" W_Numbers_init)) (bI_Numbers : Binds K fdI_Numbers ["self", "k", "f", "d", "m", "w1", "w2", "g"] []) : FnOk P w K mg base CX0 5 f fd ["heap", "parts", "most", "need"] (spV (gxOf K w mg) W__law_never_open) := by
  refine F.ok sc__law_never_open (fun vs H Q E h => spV_len (fun h => h.1) h) (fun cdv A outer s H vs Q E hr h => okV (N := N__law_never_open) rfl
  (vb_cons (vs_asg (ve_var (pv 1)) (vg_tup rfl rfl (vgs_cons (vg_name (i := 4) sc__law_never_open.nd rfl (by first | exact Or.inl rfl | exact Or.inr rfl)) (vgs_cons (vg_name (i := 5) sc__law_never_open.nd rfl (by first | exact Or.inl rfl | exact Or.inr rfl)) (vgs_cons (vg_name (i := 6) sc__law_never_open.nd rfl (by first | exact Or.inl rfl | exact Or.inr rfl)) (vgs_cons (vg_name (i := 7) sc__law_never_open.nd rfl (by first | exact Or.inl rfl | exact Or.inr rfl)) (vgs_cons (vg_name (i := 8) sc__law_never_open.nd rfl (by first | exact Or.inl rfl | exact Or.inr rfl)) (vgs_cons (vg_name (i := 9) sc__law_never_open.nd rfl (by first | exact Or.inl rfl | exact Or.inr rfl)) (vgs_cons (vg_name (i := 10) sc__law_never_open.nd rfl (by first | exact Or.inl rfl | exact Or.inr rfl)) vgs_nil)))))))))
  (vb_cons (vs_par2 (i := 11) (j := 12) rfl sc__law_never_open.nd rfl rfl  (by decide)  rfl rfl  (vqs_cons (vq_v (ve_make rfl T.m_Numbers T.cl_Numbers T.mk_Numbers GI_Numbers (hr.mono (by first | decide | omega)) (by rfl) T.m_Numbers bI_Numbers .nil (fun _ _ => .nil) pass0 (va_cons (vo_of (ve_var (pv 4))) (va_cons (vo_of (ve_var (pv 5))) (va_cons (vo_of (ve_var (pv 6))) (va_cons (vo_of (ve_var (pv 7))) (va_cons (vo_of (ve_var (pv 8))) (va_cons (vo_of (ve_var (pv 9))) (va_cons (vo_of (ve_var (pv 10))) va_nil))))))))) (vqs_cons (vq_v (ve_cmp op_ge os_ge (vo_of (ve_op (op_addP rfl) os_add (vo_var (pv 10)) (vo_var (pv 9)))) (vo_of (ve_op (op_addP rfl) os_add (vo_of (ve_op (op_addP rfl) os_add (vo_of (ve_op (op_addP rfl) os_add (vo_var (pv 4)) (vo_var (pv 2)))) (vo_var (pv 5)))) (vo_var (pv 3)))) (nomark _))) vqs_nil)) (by rfl))
  (vb_cons (vs_set (i := 13) sc__law_never_open.nd rfl (by first | exact Or.inl rfl | exact Or.inr rfl) (ve_call D__law_slow.ok (hr.mono (by first | decide | omega)) (by rfl) D__law_slow.m D__law_slow.kp D__law_slow.b .nil (fun _ _ => .nil) pass0 (va_cons (vo_var (pv 0)) (va_cons (vo_var (pv 4)) (va_cons (vo_var (pv 2)) (va_cons (vo_var (pv 6)) (va_cons (vo_of (ve_cb (cr_minP rfl rfl (room65 hr)) cs_min (by rfl) T.min (by decide +kernel) (va_cons (vo_of (ve_int pe_int)) (va_cons (vo_of (ve_op (op_addP rfl) os_add (vo_of (ve_op (op_addP rfl) os_add (vo_var (pv 4)) (vo_of (ve_int pe_int)))) (vo_of (ve_call D__law_draw.ok (hr.mono (by first | decide | omega)) (by rfl) D__law_draw.m D__law_draw.kp D__law_draw.b .nil (fun _ _ => .nil) pass0 (va_cons (vo_var (pv 0)) (va_cons (vo_of (ve_int pe_int)) va_nil)))))) va_nil)))) (va_cons (vo_of (ve_op (op_addP rfl) os_add (vo_var (pv 6)) (vo_of (ve_call D__law_draw.ok (hr.mono (by first | decide | omega)) (by rfl) D__law_draw.m D__law_draw.kp D__law_draw.b .nil (fun _ _ => .nil) pass0 (va_cons (vo_var (pv 0)) (va_cons (vo_of (ve_int pe_int)) va_nil)))))) va_nil))))))))
  (vb_cons (vs_if (vt_cmp op_gt os_gt (vo_of (ve_call D__law_gap.ok (hr.mono (by first | decide | omega)) (by rfl) D__law_gap.m D__law_gap.kp D__law_gap.b .nil (fun _ _ => .nil) pass0 (va_cons (vo_var (pv 13)) (va_cons (vo_var (pv 6)) va_nil)))) (vo_var (pv 2)) (nomark _))
  (vb_one (vs_ret (ve_bl pe_bl)))
  vb_nil)
  (vb_cons (vs_for PassesOwn.never rfl (vi_rg1 (by rfl) T.range (va_cons (vo_of (ve_int pe_int)) va_nil)) (vg_name (i := 14) sc__law_never_open.nd rfl (by first | exact Or.inl rfl | exact Or.inr rfl))
  (vb_cons (vs_set (i := 15) sc__law_never_open.nd rfl (by first | exact Or.inl rfl | exact Or.inr rfl) (ve_call D__law_draw.ok (hr.mono (by first | decide | omega)) (by rfl) D__law_draw.m D__law_draw.kp D__law_draw.b .nil (fun _ _ => .nil) pass0 (va_cons (vo_var (pv 0)) (va_cons (vo_of (ve_op op_sub os_sub (vo_of (ve_cb (cr_lenP rfl) cs_len (by rfl) T.len (by decide +kernel) (va_cons (vo_var (pv 13)) va_nil))) (vo_var (pv 6)))) va_nil))))
  (vb_cons (vs_parT (is := [16, 17]) (vqs_cons (vq_f (vf_lst va_nil)) (vqs_cons (vq_v (ve_fz (vf_cb (cr_sortedP3 rfl rfl rfl) csf_sortedP (by rfl) T.sorted (by decide +kernel) (va_cons (vo_of (ve_ct (kcr_set rfl rfl rfl) cs_set (by rfl) T.set (by decide +kernel) (va_cons (vo_of (ve_fz (vf_cb (kcr_sumL rfl rfl) csf_sumL (by rfl) T.sum (by decide +kernel) (va_cons (vo_of (ve_fz (vf_lc (own := [("lot", 19)]) rfl sc__law_never_open.nd (vi_seq rfl (vo_var (pv 13))) (blkOk_by (own := [("lot", 19)]) (N := N__law_never_open) (sc := defScope s__law_never_open) (by decide +kernel)) (fun _ _ _ _ _ => (vg_name (i := 19) sc__law_never_open.nd rfl (by first | exact Or.inl rfl | exact Or.inr rfl))) (fun _ _ _ _ _ => vts_nil) (fun _ _ _ _ _ => (ve_fz (vf_ct (kcall_list_of rfl) csf_list (by rfl) T.list (by decide +kernel) (va_cons (vo_var (pv 19)) va_nil))))))) (va_cons (vo_of (ve_fz (vf_lst va_nil))) va_nil))))) va_nil))) va_nil)))) vqs_nil)) (kpg_tup (K := K) (n := 2) rfl rfl (pgs_cons (pg_name (i := 16) sc__law_never_open.nd rfl (by first | exact Or.inl rfl | exact Or.inr rfl)) (pgs_cons (pg_name (i := 17) sc__law_never_open.nd rfl (by first | exact Or.inl rfl | exact Or.inr rfl)) pgs_nil))))
  (vb_cons (vs_for PassesOwn.never rfl (vi_seq rfl (vo_of (ve_call D__law_mixed.ok (hr.mono (by first | decide | omega)) (by rfl) D__law_mixed.m D__law_mixed.kp D__law_mixed.b .nil (fun _ _ => .nil) pass0 (va_cons (vo_var (pv 0)) (va_cons (vo_var (pv 17)) va_nil))))) (vg_name (i := 18) sc__law_never_open.nd rfl (by first | exact Or.inl rfl | exact Or.inr rfl))
  (vb_one (vs_if (VW.vt (vw_and (vt_tru rfl (vo_of (ve_cb (kcr_all rfl rfl) cs_all (by rfl) T.all (by decide +kernel) (va_cons (vo_of (ve_fz (vf_lc (own := [("lot", 19)]) rfl sc__law_never_open.nd (vi_seq rfl (vo_var (pv 13))) (blkOk_by (own := [("lot", 19)]) (N := N__law_never_open) (sc := defScope s__law_never_open) (by decide +kernel)) (fun _ _ _ _ _ => (vg_name (i := 19) sc__law_never_open.nd rfl (by first | exact Or.inl rfl | exact Or.inr rfl))) (fun _ _ _ _ _ => vts_nil) (fun _ _ _ _ _ => (ve_cmp op_le os_le (vo_of (ve_cb (cr_lenP rfl) cs_len (by rfl) T.len (by decide +kernel) (va_cons (vo_of (ve_fz (vf_lc (own := [("one", 22)]) rfl sc__law_never_open.nd (vi_seq rfl (vo_var (pv 19))) (blkOk_by (own := [("one", 22)]) (by kernel_rfl)) (fun _ _ _ _ _ => (vg_name (i := 22) sc__law_never_open.nd rfl (by first | exact Or.inl rfl | exact Or.inr rfl))) (fun _ _ _ _ _ => (vts_one (vt_cmp (op_inP rfl (hu_of hr)) os_inP (vo_var (pv 22)) (vo_of (ve_op (op_addP rfl) os_add (vo_var (pv 16)) (vo_of (ve_fz (vf_lst (va_cons (vo_of (ve_var (pv 18))) va_nil)))))) (by rfl)))) (fun _ _ _ _ _ => (ve_var (pv 22)))))) va_nil))) (vo_var (pv 5)) (nomark _)))))) va_nil)))) (vw_and1 (vt_cmp op_gt os_gt (vo_of (ve_call D__law_draw.ok (hr.mono (by first | decide | omega)) (by rfl) D__law_draw.m D__law_draw.kp D__law_draw.b .nil (fun _ _ => .nil) pass0 (va_cons (vo_var (pv 0)) (va_cons (vo_of (ve_int pe_int)) va_nil)))) (vo_of (ve_int pe_int)) (nomark _)))))
  (vb_one (vs_expr (ve_app rfl (pv 16) (ve_var (pv 18)))))
  vb_nil)))
  (vb_cons (vs_par2 (i := 19) (j := 20) rfl sc__law_never_open.nd rfl rfl  (by decide)  rfl rfl  (vqs_cons (vq_v (ve_ct (kcall_tuple_of rfl) cs_tuple (by rfl) T.tuple (by decide +kernel) (va_cons (vo_of (ve_fz (vf_cb (cr_sortedP3 rfl rfl rfl) csf_sortedP (by rfl) T.sorted (by decide +kernel) (va_cons (vo_var (pv 16)) va_nil)))) va_nil))) (vqs_cons (vq_v (ve_call D__law_some.ok (hr.mono (by first | decide | omega)) (by rfl) D__law_some.m D__law_some.kp D__law_some.b .nil (fun _ _ => .nil) pass0 (va_cons (vo_var (pv 0)) (va_cons (vo_of (ve_ix rfl (vo_var (pv 13)) (vo_var (pv 15)) (fun _ _ => rfl))) (va_cons (vo_var (pv 9)) va_nil))))) vqs_nil)) (by rfl))
  (vb_cons (vs_set (i := 21) sc__law_never_open.nd rfl (by first | exact Or.inl rfl | exact Or.inr rfl) (ve_call D__law_line.ok (hr.mono (by first | decide | omega)) (by rfl) D__law_line.m D__law_line.kp D__law_line.b .nil (fun _ _ => .nil) pass0 (va_cons (vo_var (pv 13)) (va_cons (vo_var (pv 6)) (va_cons (vo_var (pv 10)) (va_cons (vo_var (pv 15)) (va_cons (vo_var (pv 19)) (va_cons (vo_var (pv 20)) (va_cons (vo_var (pv 3)) va_nil)))))))))
  (vb_cons (vs_if (vt_not (vt_tru rfl (vo_of (ve_call D__law_like.ok (hr.mono (by first | decide | omega)) (by rfl) D__law_like.m D__law_like.kp D__law_like.b .nil (fun _ _ => .nil) pass0 (va_cons (vo_of (ve_tup (va_cons (vo_of (ve_call D_blanks.ok (hr.mono (by first | decide | omega)) (by rfl) D_blanks.m D_blanks.kp D_blanks.b .nil (fun _ _ => .nil) pass0 (va_cons (vo_var (pv 13)) (va_cons (vo_var (pv 11)) (va_cons (vo_var (pv 15)) (va_cons (vo_var (pv 19)) (va_cons (vo_var (pv 20)) (va_cons (vo_var (pv 3)) va_nil)))))))) (va_cons (vo_of (ve_call D_open_words.ok (hr.mono (by first | decide | omega)) (by rfl) D_open_words.m D_open_words.kp D_open_words.b .nil (fun _ _ => .nil) pass0 (va_cons (vo_var (pv 13)) (va_cons (vo_var (pv 11)) (va_cons (vo_var (pv 15)) (va_cons (vo_var (pv 19)) (va_cons (vo_var (pv 20)) (va_cons (vo_var (pv 3)) va_nil)))))))) va_nil)))) (va_cons (vo_var (pv 21)) va_nil))))))
  (vb_one (vs_ret (ve_bl pe_bl)))
  vb_nil)
  (vb_one (vs_if (VW.vt (vw_and (vt_tru rfl (vo_var (pv 12))) (vw_and1 (vt_cmp (kop_neD rfl hr.units) os_ne (vo_of (ve_ix rfl (vo_var (pv 21)) (vo_of (ve_int pe_int)) (fun _ _ => rfl))) (vo_of (ve_tup va_nil)) (nomark _)))))
  (vb_one (vs_ret (ve_bl pe_bl)))
  vb_nil)))))))))
  (vb_one (vs_ret (ve_bl pe_bl)))))))) h)
theorem kb_open_words_5_4_2_0_1_3 {f : Addr} {fd : FuncData} (F : Fun K "open_words" "open_words" s_open_words f fd) : KBinds K fd ["course", "numbers", "p", "liars", "keepers", "need"] ["liars", "keepers", "p", "need", "numbers", "course"] (reoK [5, 4, 2, 0, 1, 3]) (reoK [5, 4, 2, 0, 1, 3]) := by
  obtain ⟨oc, od, kV, doc, pm, an, cdv, ct, osl, rfl, lk, hcd⟩ := F.ex
  exact ⟨fun s us ws _ hl => by
    obtain ⟨rfl, h2⟩ := reoK_len hl
    exact match ws, h2 with | [_, _, _, _, _, _], _ => .of_eq rfl, fun h1 h2 => reoK_rel h1 h2⟩
theorem ok__law_some_open {f : Addr} {fd : FuncData} (F : Fun K "_law_some_open" "_law_some_open" s__law_some_open f fd) (T : Txt K mg) (D__law_stairs : Df P w K mg base 1 "_law_stairs" ["k", "f", "most", "d", "words"] (spV (gxOf K w mg) W__law_stairs)) (D__law_gap : Df P w K mg base 2 "_law_gap" ["course", "d"] (spV (gxOf K w mg) W__law_gap)) (D_open_words : Df P w K mg base 3 "open_words" ["course", "numbers", "p", "liars", "keepers", "need"] (spV (gxOf K w mg) W_open_words)) (KB_open_words_5_4_2_0_1_3 : KBinds K D_open_words.fd ["course", "numbers", "p", "liars", "keepers", "need"] ["liars", "keepers", "p", "need", "numbers", "course"] (reoK [5, 4, 2, 0, 1, 3]) (reoK [5, 4, 2, 0, 1, 3])) {fdI_Numbers : FuncData} (GI_Numbers : FnOk P w K mg base CX0 3 T.fI_Numbers fdI_Numbers ["self", "k", "f", "d", "m", "w1", "w2", "g"] (spN (gxOf K w mg) "Numbers" W_Numbers_init)) (bI_Numbers : Binds K fdI_Numbers ["self", "k", "f", "d", "m", "w1", "w2", "g"] []) : FnOk P w K mg base CX0 5 f fd ["parts", "most", "need"] (spV (gxOf K w mg) W__law_some_open) := by
  refine F.ok sc__law_some_open (fun vs H Q E h => spV_len (fun h => h.1) h) (fun cdv A outer s H vs Q E hr h => okV (N := N__law_some_open) rfl
  (vb_cons (vs_asg (ve_var (pv 0)) (vg_tup rfl rfl (vgs_cons (vg_name (i := 3) sc__law_some_open.nd rfl (by first | exact Or.inl rfl | exact Or.inr rfl)) (vgs_cons (vg_name (i := 4) sc__law_some_open.nd rfl (by first | exact Or.inl rfl | exact Or.inr rfl)) (vgs_cons (vg_name (i := 5) sc__law_some_open.nd rfl (by first | exact Or.inl rfl | exact Or.inr rfl)) (vgs_cons (vg_name (i := 6) sc__law_some_open.nd rfl (by first | exact Or.inl rfl | exact Or.inr rfl)) (vgs_cons (vg_name (i := 7) sc__law_some_open.nd rfl (by first | exact Or.inl rfl | exact Or.inr rfl)) (vgs_cons (vg_name (i := 8) sc__law_some_open.nd rfl (by first | exact Or.inl rfl | exact Or.inr rfl)) (vgs_cons (vg_name (i := 9) sc__law_some_open.nd rfl (by first | exact Or.inl rfl | exact Or.inr rfl)) vgs_nil)))))))))
  (vb_cons (vs_if (VW.vt (vw_or (vt_cmp op_gt os_gt (vo_var (pv 4)) (vo_var (pv 8)) (nomark _)) (vw_or (vt_cmp op_ge os_ge (vo_of (ve_op (op_addP rfl) os_add (vo_var (pv 9)) (vo_var (pv 8)))) (vo_of (ve_op (op_addP rfl) os_add (vo_of (ve_op (op_addP rfl) os_add (vo_of (ve_op (op_addP rfl) os_add (vo_var (pv 3)) (vo_var (pv 1)))) (vo_var (pv 4)))) (vo_var (pv 2)))) (nomark _)) (vw_or (vt_cmp op_lt os_lt (vo_of (ve_op op_sub os_sub (vo_var (pv 8)) (vo_var (pv 4)))) (vo_var (pv 1)) (nomark _)) (vw_or1 (vt_cmp op_gt os_gt (vo_of (ve_op (op_addP rfl) os_add (vo_var (pv 3)) (vo_of (ve_cb (cr_minP rfl rfl (room65 hr)) cs_min (by rfl) T.min (by decide +kernel) (va_cons (vo_of (ve_op op_sub os_sub (vo_var (pv 3)) (vo_var (pv 4)))) (va_cons (vo_of (ve_op (op_mulP rfl) os_mul (vo_of (ve_int pe_int)) (vo_var (pv 1)))) va_nil)))))) (vo_of (ve_int pe_int)) (nomark _)))))))
  (vb_one (vs_ret (ve_bl pe_bl)))
  vb_nil)
  (vb_cons (vs_par2 (i := 10) (j := 11) rfl sc__law_some_open.nd rfl rfl  (by decide)  rfl rfl  (vqs_cons (vq_v (ve_call D__law_stairs.ok (hr.mono (by first | decide | omega)) (by rfl) D__law_stairs.m D__law_stairs.kp D__law_stairs.b .nil (fun _ _ => .nil) pass0 (va_cons (vo_var (pv 3)) (va_cons (vo_var (pv 4)) (va_cons (vo_var (pv 1)) (va_cons (vo_var (pv 5)) (va_cons (vo_of (ve_op (op_addP rfl) os_add (vo_of (ve_op (op_mulP rfl) os_mul (vo_of (ve_int pe_int)) (vo_var (pv 5)))) (vo_of (ve_int pe_int)))) va_nil))))))) (vqs_cons (vq_v (ve_make rfl T.m_Numbers T.cl_Numbers T.mk_Numbers GI_Numbers (hr.mono (by first | decide | omega)) (by rfl) T.m_Numbers bI_Numbers .nil (fun _ _ => .nil) pass0 (va_cons (vo_of (ve_var (pv 3))) (va_cons (vo_of (ve_var (pv 4))) (va_cons (vo_of (ve_var (pv 5))) (va_cons (vo_of (ve_var (pv 6))) (va_cons (vo_of (ve_var (pv 7))) (va_cons (vo_of (ve_var (pv 8))) (va_cons (vo_of (ve_var (pv 9))) va_nil))))))))) vqs_nil)) (by rfl))
  (vb_cons (vs_par2 (i := 12) (j := 13) rfl sc__law_some_open.nd rfl rfl  (by decide)  rfl rfl  (vqs_cons (vq_v (ve_rgT1 rfl (by rfl) T.tuple (by rfl) T.range (ve_var (pv 4)))) (vqs_cons (vq_v (ve_rgT1 rfl (by rfl) T.tuple (by rfl) T.range (ve_var (pv 8)))) vqs_nil)) (by rfl))
  (vb_one (vs_ret (ve_and (ve_cmp op_le os_le (vo_of (ve_call D__law_gap.ok (hr.mono (by first | decide | omega)) (by rfl) D__law_gap.m D__law_gap.kp D__law_gap.b .nil (fun _ _ => .nil) pass0 (va_cons (vo_var (pv 10)) (va_cons (vo_var (pv 5)) va_nil)))) (vo_var (pv 1)) (nomark _)) (ve_one (ve_cmp (kop_eqD rfl hr.units) os_eq (vo_of (ve_sl rfl (vo_of (ve_callK (pm := [5, 4, 2, 0, 1, 3]) D_open_words.ok (hr.mono (by first | decide | omega)) (by rfl) D_open_words.m D_open_words.kp KB_open_words_5_4_2_0_1_3 pass0 (vk_cons (vo_var (pv 12)) (vk_cons (vo_var (pv 13)) (vk_cons (vo_of (ve_int pe_int)) (vk_cons (vo_var (pv 2)) (vk_cons (vo_var (pv 11)) (vk_cons (vo_var (pv 10)) vk_nil)))))))) vp_none (vp_some (ve_int pe_int)))) (vo_of (ve_tup (va_cons (vo_of (ve_var (pv 5))) va_nil))) (nomark _)))))))))) h)
theorem ok__law_sums_right {f : Addr} {fd : FuncData} (F : Fun K "_law_sums_right" "_law_sums_right" s__law_sums_right f fd) (T : Txt K mg) (D__law_like : Df P w K mg base 4 "_law_like" ["told", "due"] (spV (gxOf K w mg) W__law_like)) (D_kinds_of : Df P w K mg base 4 "kinds_of" ["numbers", "spread"] (spV (gxOf K w mg) W_kinds_of)) (D_near_slack : Df P w K mg base 1 "near_slack" ["numbers", "spread"] (spV (gxOf K w mg) W_near_slack)) (D_far_slack : Df P w K mg base 1 "far_slack" ["numbers", "spread"] (spV (gxOf K w mg) W_far_slack)) (D_mend_slack : Df P w K mg base 2 "mend_slack" ["numbers", "spread"] (spV (gxOf K w mg) W_mend_slack)) (D_plain_slack : Df P w K mg base 1 "plain_slack" ["numbers", "spread"] (spV (gxOf K w mg) W_plain_slack)) (D_is_single : Df P w K mg base 2 "is_single" ["numbers", "spread"] (spV (gxOf K w mg) W_is_single)) (D_is_lasting : Df P w K mg base 3 "is_lasting" ["numbers", "spread"] (spV (gxOf K w mg) W_is_lasting)) (D_plain_lasts : Df P w K mg base 2 "plain_lasts" ["numbers", "spread"] (spV (gxOf K w mg) W_plain_lasts)) (D_plain_words : Df P w K mg base 3 "plain_words" ["numbers", "spread"] (spV (gxOf K w mg) W_plain_words)) (D_words_to_gone : Df P w K mg base 4 "words_to_gone" ["numbers", "spread"] (spV (gxOf K w mg) W_words_to_gone)) (D_sees : Df P w K mg base 2 "sees" ["numbers", "spread", "r"] (spV (gxOf K w mg) W_sees)) (D_plain_reads : Df P w K mg base 1 "plain_reads" ["numbers", "spread", "r"] (spV (gxOf K w mg) W_plain_reads)) {fdI_Numbers : FuncData} (GI_Numbers : FnOk P w K mg base CX0 3 T.fI_Numbers fdI_Numbers ["self", "k", "f", "d", "m", "w1", "w2", "g"] (spN (gxOf K w mg) "Numbers" W_Numbers_init)) (bI_Numbers : Binds K fdI_Numbers ["self", "k", "f", "d", "m", "w1", "w2", "g"] []) : FnOk P w K mg base CX0 5 f fd ["parts", "most"] (spV (gxOf K w mg) W__law_sums_right) := by
  refine F.ok sc__law_sums_right (fun vs H Q E h => spV_len (fun h => h.1) h) (fun cdv A outer s H vs Q E hr h => okV (N := N__law_sums_right) rfl
  (vb_cons (vs_asg (ve_var (pv 0)) (vg_tup rfl rfl (vgs_cons (vg_name (i := 2) sc__law_sums_right.nd rfl (by first | exact Or.inl rfl | exact Or.inr rfl)) (vgs_cons (vg_name (i := 3) sc__law_sums_right.nd rfl (by first | exact Or.inl rfl | exact Or.inr rfl)) (vgs_cons (vg_name (i := 4) sc__law_sums_right.nd rfl (by first | exact Or.inl rfl | exact Or.inr rfl)) (vgs_cons (vg_name (i := 5) sc__law_sums_right.nd rfl (by first | exact Or.inl rfl | exact Or.inr rfl)) (vgs_cons (vg_name (i := 6) sc__law_sums_right.nd rfl (by first | exact Or.inl rfl | exact Or.inr rfl)) (vgs_cons (vg_name (i := 7) sc__law_sums_right.nd rfl (by first | exact Or.inl rfl | exact Or.inr rfl)) (vgs_cons (vg_name (i := 8) sc__law_sums_right.nd rfl (by first | exact Or.inl rfl | exact Or.inr rfl)) vgs_nil)))))))))
  (vb_cons (vs_par2 (i := 9) (j := 10) rfl sc__law_sums_right.nd rfl rfl  (by decide)  rfl rfl  (vqs_cons (vq_v (ve_make rfl T.m_Numbers T.cl_Numbers T.mk_Numbers GI_Numbers (hr.mono (by first | decide | omega)) (by rfl) T.m_Numbers bI_Numbers .nil (fun _ _ => .nil) pass0 (va_cons (vo_of (ve_var (pv 2))) (va_cons (vo_of (ve_var (pv 3))) (va_cons (vo_of (ve_var (pv 4))) (va_cons (vo_of (ve_var (pv 5))) (va_cons (vo_of (ve_var (pv 6))) (va_cons (vo_of (ve_var (pv 7))) (va_cons (vo_of (ve_var (pv 8))) va_nil))))))))) (vqs_cons (vq_v (ve_op op_sub os_sub (vo_of (ve_op op_sub os_sub (vo_of (ve_op op_sub os_sub (vo_of (ve_op (op_addP rfl) os_add (vo_var (pv 8)) (vo_var (pv 7)))) (vo_var (pv 2)))) (vo_var (pv 1)))) (vo_var (pv 3)))) vqs_nil)) (by rfl))
  (vb_cons (vs_set (i := 11) sc__law_sums_right.nd rfl (by first | exact Or.inl rfl | exact Or.inr rfl) (ve_op op_sub os_sub (vo_of (ve_op op_sub os_sub (vo_of (ve_op op_sub os_sub (vo_of (ve_op (op_mulP rfl) os_mul (vo_of (ve_int pe_int)) (vo_var (pv 6)))) (vo_var (pv 2)))) (vo_var (pv 1)))) (vo_var (pv 3))))
  (vb_cons (vs_if (vt_not (vt_tru rfl (vo_of (ve_call D__law_like.ok (hr.mono (by first | decide | omega)) (by rfl) D__law_like.m D__law_like.kp D__law_like.b .nil (fun _ _ => .nil) pass0 (va_cons (vo_of (ve_tup (va_cons (vo_of (ve_call D_near_slack.ok (hr.mono (by first | decide | omega)) (by rfl) D_near_slack.m D_near_slack.kp D_near_slack.b .nil (fun _ _ => .nil) pass0 (va_cons (vo_var (pv 9)) (va_cons (vo_var (pv 1)) va_nil)))) (va_cons (vo_of (ve_call D_far_slack.ok (hr.mono (by first | decide | omega)) (by rfl) D_far_slack.m D_far_slack.kp D_far_slack.b .nil (fun _ _ => .nil) pass0 (va_cons (vo_var (pv 9)) (va_cons (vo_var (pv 1)) va_nil)))) (va_cons (vo_of (ve_call D_mend_slack.ok (hr.mono (by first | decide | omega)) (by rfl) D_mend_slack.m D_mend_slack.kp D_mend_slack.b .nil (fun _ _ => .nil) pass0 (va_cons (vo_var (pv 9)) (va_cons (vo_var (pv 1)) va_nil)))) (va_cons (vo_of (ve_call D_plain_slack.ok (hr.mono (by first | decide | omega)) (by rfl) D_plain_slack.m D_plain_slack.kp D_plain_slack.b .nil (fun _ _ => .nil) pass0 (va_cons (vo_var (pv 9)) (va_cons (vo_var (pv 1)) va_nil)))) va_nil)))))) (va_cons (vo_of (ve_tup (va_cons (vo_of (ve_var (pv 11))) (va_cons (vo_of (ve_var (pv 10))) (va_cons (vo_of (ve_op op_sub os_sub (vo_var (pv 10)) (vo_var (pv 5)))) (va_cons (vo_of (ve_op op_sub os_sub (vo_of (ve_op op_sub os_sub (vo_var (pv 10)) (vo_var (pv 5)))) (vo_var (pv 3)))) va_nil)))))) va_nil))))))
  (vb_one (vs_ret (ve_bl pe_bl)))
  vb_nil)
  (vb_cons (vs_set (i := 12) sc__law_sums_right.nd rfl (by first | exact Or.inl rfl | exact Or.inr rfl) (ve_tup (va_cons (vo_of (ve_and (ve_cmp op_gt os_gt (vo_var (pv 11)) (vo_of (ve_int pe_int)) (nomark _)) (ve_one (ve_or (ve_cmp (kop_eqD rfl hr.units) os_eq (vo_var (pv 1)) (vo_of (ve_int pe_int)) (nomark _)) (ve_one (ve_cmp op_ge os_ge (vo_var (pv 10)) (vo_of (ve_int pe_int)) (nomark _))))))) (va_cons (vo_of (ve_ifE (vt_cmp op_gt os_gt (vo_var (pv 1)) (vo_of (ve_int pe_int)) (nomark _)) (ve_cmp op_ge os_ge (vo_var (pv 10)) (vo_var (pv 5)) (nomark _)) (ve_cmp op_ge os_ge (vo_var (pv 7)) (vo_of (ve_op (op_addP rfl) os_add (vo_var (pv 3)) (vo_var (pv 5)))) (nomark _)))) (va_cons (vo_of (ve_ifE (vt_cmp op_gt os_gt (vo_var (pv 1)) (vo_of (ve_int pe_int)) (nomark _)) (ve_cmp op_ge os_ge (vo_var (pv 10)) (vo_of (ve_op (op_addP rfl) os_add (vo_var (pv 5)) (vo_var (pv 3)))) (nomark _)) (ve_cmp op_ge os_ge (vo_var (pv 7)) (vo_of (ve_op (op_addP rfl) os_add (vo_of (ve_op (op_mulP rfl) os_mul (vo_of (ve_int pe_int)) (vo_var (pv 3)))) (vo_var (pv 5)))) (nomark _)))) va_nil)))))
  (vb_cons (vs_if (vt_not (vt_tru rfl (vo_of (ve_call D__law_like.ok (hr.mono (by first | decide | omega)) (by rfl) D__law_like.m D__law_like.kp D__law_like.b .nil (fun _ _ => .nil) pass0 (va_cons (vo_of (ve_tup (va_cons (vo_of (ve_call D_is_single.ok (hr.mono (by first | decide | omega)) (by rfl) D_is_single.m D_is_single.kp D_is_single.b .nil (fun _ _ => .nil) pass0 (va_cons (vo_var (pv 9)) (va_cons (vo_var (pv 1)) va_nil)))) (va_cons (vo_of (ve_call D_is_lasting.ok (hr.mono (by first | decide | omega)) (by rfl) D_is_lasting.m D_is_lasting.kp D_is_lasting.b .nil (fun _ _ => .nil) pass0 (va_cons (vo_var (pv 9)) (va_cons (vo_var (pv 1)) va_nil)))) (va_cons (vo_of (ve_call D_plain_lasts.ok (hr.mono (by first | decide | omega)) (by rfl) D_plain_lasts.m D_plain_lasts.kp D_plain_lasts.b .nil (fun _ _ => .nil) pass0 (va_cons (vo_var (pv 9)) (va_cons (vo_var (pv 1)) va_nil)))) va_nil))))) (va_cons (vo_var (pv 12)) va_nil))))))
  (vb_one (vs_ret (ve_bl pe_bl)))
  vb_nil)
  (vb_cons (vs_set (i := 13) sc__law_sums_right.nd rfl (by first | exact Or.inl rfl | exact Or.inr rfl) (ve_op (op_addP rfl) os_add (vo_of (ve_op (op_addP rfl) os_add (vo_of (ve_op (op_mulP rfl) os_mul (vo_of (ve_fz (vf_lst (va_cons (vo_of (ve_str pe_str)) va_nil)))) (vo_of (ve_ct (call_int1) cs_int (by rfl) T.int (by decide +kernel) (va_cons (vo_of (ve_and (ve_cmp op_gt os_gt (vo_var (pv 1)) (vo_of (ve_int pe_int)) (nomark _)) (ve_one (ve_cmp op_lt os_lt (vo_var (pv 10)) (vo_of (ve_int pe_int)) (nomark _))))) va_nil))))) (vo_of (ve_op (op_mulP rfl) os_mul (vo_of (ve_fz (vf_lst (va_cons (vo_of (ve_str pe_str)) va_nil)))) (vo_of (ve_ct (call_int1) cs_int (by rfl) T.int (by decide +kernel) (va_cons (vo_of (ve_not (ve_ix rfl (vo_var (pv 12)) (vo_of (ve_int pe_int)) (fun _ _ => rfl)))) va_nil))))))) (vo_of (ve_op (op_mulP rfl) os_mul (vo_of (ve_fz (vf_lst (va_cons (vo_of (ve_str pe_str)) va_nil)))) (vo_of (ve_ct (call_int1) cs_int (by rfl) T.int (by decide +kernel) (va_cons (vo_of (ve_cmp op_le os_le (vo_var (pv 11)) (vo_of (ve_int pe_int)) (nomark _))) va_nil)))))))
  (vb_cons (vs_if (vt_not (vt_tru rfl (vo_of (ve_call D__law_like.ok (hr.mono (by first | decide | omega)) (by rfl) D__law_like.m D__law_like.kp D__law_like.b .nil (fun _ _ => .nil) pass0 (va_cons (vo_of (ve_call D_kinds_of.ok (hr.mono (by first | decide | omega)) (by rfl) D_kinds_of.m D_kinds_of.kp D_kinds_of.b .nil (fun _ _ => .nil) pass0 (va_cons (vo_var (pv 9)) (va_cons (vo_var (pv 1)) va_nil)))) (va_cons (vo_of (ve_ct (kcall_tuple_of rfl) cs_tuple (by rfl) T.tuple (by decide +kernel) (va_cons (vo_var (pv 13)) va_nil))) va_nil))))))
  (vb_one (vs_ret (ve_bl pe_bl)))
  vb_nil)
  (vb_cons (vs_if (VW.vt (vw_and (vt_cmp op_le os_le (vo_of (ve_op (op_addP rfl) os_add (vo_var (pv 5)) (vo_var (pv 3)))) (vo_of (ve_cb (cr_minP rfl rfl (room65 hr)) cs_min (by rfl) T.min (by decide +kernel) (va_cons (vo_var (pv 2)) (va_cons (vo_of (ve_int pe_int)) va_nil)))) (nomark _)) (vw_and1 (vt_not (vt_tru rfl (vo_of (ve_call D__law_like.ok (hr.mono (by first | decide | omega)) (by rfl) D__law_like.m D__law_like.kp D__law_like.b .nil (fun _ _ => .nil) pass0 (va_cons (vo_of (ve_call D_plain_words.ok (hr.mono (by first | decide | omega)) (by rfl) D_plain_words.m D_plain_words.kp D_plain_words.b .nil (fun _ _ => .nil) pass0 (va_cons (vo_var (pv 9)) (va_cons (vo_var (pv 1)) va_nil)))) (va_cons (vo_of (ve_call D_words_to_gone.ok (hr.mono (by first | decide | omega)) (by rfl) D_words_to_gone.m D_words_to_gone.kp D_words_to_gone.b .nil (fun _ _ => .nil) pass0 (va_cons (vo_of (ve_make rfl T.m_Numbers T.cl_Numbers T.mk_Numbers GI_Numbers (hr.mono (by first | decide | omega)) (by rfl) T.m_Numbers bI_Numbers .nil (fun _ _ => .nil) pass0 (va_cons (vo_of (ve_var (pv 2))) (va_cons (vo_of (ve_var (pv 3))) (va_cons (vo_of (ve_var (pv 4))) (va_cons (vo_of (ve_op (op_addP rfl) os_add (vo_var (pv 5)) (vo_var (pv 3)))) (va_cons (vo_of (ve_var (pv 6))) (va_cons (vo_of (ve_var (pv 7))) (va_cons (vo_of (ve_var (pv 8))) va_nil))))))))) (va_cons (vo_var (pv 1)) va_nil)))) va_nil)))))))))
  (vb_one (vs_ret (ve_bl pe_bl)))
  vb_nil)
  (vb_cons (vs_for PassesOwn.never rfl (vi_seq rfl (vo_of (ve_fz (vf_lst (va_cons (vo_of (ve_int pe_int)) (va_cons (vo_of (ve_var (pv 7))) (va_cons (vo_of (ve_var (pv 8))) (va_cons (vo_of (ve_var (pv 2))) va_nil)))))))) (vg_name (i := 14) sc__law_sums_right.nd rfl (by first | exact Or.inl rfl | exact Or.inr rfl))
  (vb_cons (vs_set (i := 15) sc__law_sums_right.nd rfl (by first | exact Or.inl rfl | exact Or.inr rfl) (ve_cmp op_ge os_ge (vo_of (ve_op (op_addP rfl) os_add (vo_var (pv 14)) (vo_var (pv 7)))) (vo_of (ve_op (op_addP rfl) os_add (vo_of (ve_op (op_addP rfl) os_add (vo_of (ve_op (op_addP rfl) os_add (vo_var (pv 2)) (vo_var (pv 1)))) (vo_var (pv 3)))) (vo_var (pv 5)))) (nomark _)))
  (vb_cons (vs_if (VW.vt (vw_and (vt_tru rfl (vo_of (ve_ix rfl (vo_var (pv 12)) (vo_of (ve_int pe_int)) (fun _ _ => rfl)))) (vw_and (vt_tru rfl (vo_of (ve_ix rfl (vo_var (pv 12)) (vo_of (ve_int pe_int)) (fun _ _ => rfl)))) (vw_and1 (vt_not (vt_tru rfl (vo_of (ve_call D__law_like.ok (hr.mono (by first | decide | omega)) (by rfl) D__law_like.m D__law_like.kp D__law_like.b .nil (fun _ _ => .nil) pass0 (va_cons (vo_of (ve_call D_sees.ok (hr.mono (by first | decide | omega)) (by rfl) D_sees.m D_sees.kp D_sees.b .nil (fun _ _ => .nil) pass0 (va_cons (vo_var (pv 9)) (va_cons (vo_var (pv 1)) (va_cons (vo_var (pv 14)) va_nil))))) (va_cons (vo_of (ve_tup (va_cons (vo_of (ve_var (pv 15))) (va_cons (vo_of (ve_and (ve_var (pv 15)) (ve_one (ve_or (ve_cmp (kop_eqD rfl hr.units) os_eq (vo_var (pv 1)) (vo_of (ve_int pe_int)) (nomark _)) (ve_one (ve_cmp op_gt os_gt (vo_of (ve_op (op_addP rfl) os_add (vo_var (pv 14)) (vo_var (pv 8)))) (vo_of (ve_op (op_addP rfl) os_add (vo_of (ve_op (op_addP rfl) os_add (vo_var (pv 2)) (vo_var (pv 1)))) (vo_var (pv 3)))) (nomark _))))))) va_nil)))) va_nil))))))))))
  (vb_one (vs_ret (ve_bl pe_bl)))
  vb_nil)
  (vb_cons (vs_set (i := 16) sc__law_sums_right.nd rfl (by first | exact Or.inl rfl | exact Or.inr rfl) (ve_tup (va_cons (vo_of (ve_cmp op_ge os_ge (vo_of (ve_op (op_addP rfl) os_add (vo_var (pv 14)) (vo_var (pv 7)))) (vo_of (ve_op (op_addP rfl) os_add (vo_of (ve_op (op_addP rfl) os_add (vo_of (ve_op (op_addP rfl) os_add (vo_var (pv 2)) (vo_var (pv 1)))) (vo_of (ve_op (op_mulP rfl) os_mul (vo_of (ve_int pe_int)) (vo_var (pv 3)))))) (vo_var (pv 5)))) (nomark _))) (va_cons (vo_of (ve_and (ve_cmp op_ge os_ge (vo_of (ve_op (op_addP rfl) os_add (vo_var (pv 14)) (vo_var (pv 7)))) (vo_of (ve_op (op_addP rfl) os_add (vo_of (ve_op (op_addP rfl) os_add (vo_of (ve_op (op_addP rfl) os_add (vo_var (pv 2)) (vo_var (pv 1)))) (vo_of (ve_op (op_mulP rfl) os_mul (vo_of (ve_int pe_int)) (vo_var (pv 3)))))) (vo_var (pv 5)))) (nomark _)) (ve_one (ve_or (ve_cmp (kop_eqD rfl hr.units) os_eq (vo_var (pv 1)) (vo_of (ve_int pe_int)) (nomark _)) (ve_one (ve_cmp op_gt os_gt (vo_of (ve_op (op_addP rfl) os_add (vo_var (pv 14)) (vo_var (pv 8)))) (vo_of (ve_op (op_addP rfl) os_add (vo_of (ve_op (op_addP rfl) os_add (vo_var (pv 2)) (vo_var (pv 1)))) (vo_var (pv 3)))) (nomark _))))))) va_nil))))
  (vb_one (vs_if (VW.vt (vw_and (vt_tru rfl (vo_of (ve_ix rfl (vo_var (pv 12)) (vo_of (ve_int pe_int)) (fun _ _ => rfl)))) (vw_and1 (vt_not (vt_tru rfl (vo_of (ve_call D__law_like.ok (hr.mono (by first | decide | omega)) (by rfl) D__law_like.m D__law_like.kp D__law_like.b .nil (fun _ _ => .nil) pass0 (va_cons (vo_of (ve_call D_plain_reads.ok (hr.mono (by first | decide | omega)) (by rfl) D_plain_reads.m D_plain_reads.kp D_plain_reads.b .nil (fun _ _ => .nil) pass0 (va_cons (vo_var (pv 9)) (va_cons (vo_var (pv 1)) (va_cons (vo_var (pv 14)) va_nil))))) (va_cons (vo_var (pv 16)) va_nil)))))))))
  (vb_one (vs_ret (ve_bl pe_bl)))
  vb_nil))))))
  (vb_one (vs_ret (ve_bl pe_bl))))))))))))) h)
theorem ok__law_borders_right {f : Addr} {fd : FuncData} (F : Fun K "_law_borders_right" "_law_borders_right" s__law_borders_right f fd) (T : Txt K mg) (D_least_numbers : Df P w K mg base 5 "least_numbers" ["f", "spread", "d", "m"] (spV (gxOf K w mg) W_least_numbers)) (D__law_like : Df P w K mg base 4 "_law_like" ["told", "due"] (spV (gxOf K w mg) W__law_like)) (D_least_counts : Df P w K mg base 1 "least_counts" ["f", "spread", "m"] (spV (gxOf K w mg) W_least_counts)) (D_is_single : Df P w K mg base 2 "is_single" ["numbers", "spread"] (spV (gxOf K w mg) W_is_single)) (D_is_lasting : Df P w K mg base 3 "is_lasting" ["numbers", "spread"] (spV (gxOf K w mg) W_is_lasting)) (D_can_end : Df P w K mg base 1 "can_end" ["numbers"] (spV (gxOf K w mg) W_can_end)) (D_sees_with_ends : Df P w K mg base 3 "sees_with_ends" ["numbers", "spread"] (spV (gxOf K w mg) W_sees_with_ends)) (D_least_triples : Df P w K mg base 1 "least_triples" ["k", "f", "m", "spread", "most"] (spV (gxOf K w mg) W_least_triples)) (D_least_copies : Df P w K mg base 2 "least_copies" ["f", "spread", "parts", "is_signed"] (spV (gxOf K w mg) W_least_copies)) (D_plain_copies : Df P w K mg base 1 "plain_copies" ["f", "spread", "m"] (spV (gxOf K w mg) W_plain_copies)) (D_least_asked : Df P w K mg base 2 "least_asked" ["numbers", "spread"] (spV (gxOf K w mg) W_least_asked)) (D_thin_of : Df P w K mg base 3 "thin_of" ["course", "f", "d", "common"] (spV (gxOf K w mg) W_thin_of)) (D_most_common : Df P w K mg base 2 "most_common" ["f", "parts", "is_signed"] (spV (gxOf K w mg) W_most_common)) : FnOk P w K mg base CX0 6 f fd ["heap", "f", "most", "m", "d"] (spV (gxOf K w mg) W__law_borders_right) := by
  refine F.ok sc__law_borders_right (fun vs H Q E h => spV_len (fun h => h.1) h) (fun cdv A outer s H vs Q E hr h => okV (N := N__law_borders_right) rfl
  (vb_cons (vs_set (i := 5) sc__law_borders_right.nd rfl (by first | exact Or.inl rfl | exact Or.inr rfl) (ve_op (op_addP rfl) os_add (vo_of (ve_op (op_addP rfl) os_add (vo_of (ve_op (op_mulP rfl) os_mul (vo_of (ve_int pe_int)) (vo_var (pv 1)))) (vo_var (pv 2)))) (vo_var (pv 3))))
  (vb_cons (vs_if (vt_not (vt_tru rfl (vo_of (ve_call D__law_like.ok (hr.mono (by first | decide | omega)) (by rfl) D__law_like.m D__law_like.kp D__law_like.b .nil (fun _ _ => .nil) pass0 (va_cons (vo_of (ve_tup (va_cons (vo_of (ve_call D_least_copies.ok (hr.mono (by first | decide | omega)) (by rfl) D_least_copies.m D_least_copies.kp D_least_copies.b .nil (fun _ _ => .nil) pass0 (va_cons (vo_var (pv 1)) (va_cons (vo_var (pv 2)) (va_cons (vo_var (pv 3)) (va_cons (vo_of (ve_bl pe_bl)) va_nil)))))) (va_cons (vo_of (ve_call D_least_copies.ok (hr.mono (by first | decide | omega)) (by rfl) D_least_copies.m D_least_copies.kp D_least_copies.b .nil (fun _ _ => .nil) pass0 (va_cons (vo_var (pv 1)) (va_cons (vo_var (pv 2)) (va_cons (vo_var (pv 3)) (va_cons (vo_of (ve_bl pe_bl)) va_nil)))))) (va_cons (vo_of (ve_call D_plain_copies.ok (hr.mono (by first | decide | omega)) (by rfl) D_plain_copies.m D_plain_copies.kp D_plain_copies.b .nil (fun _ _ => .nil) pass0 (va_cons (vo_var (pv 1)) (va_cons (vo_var (pv 2)) (va_cons (vo_var (pv 3)) va_nil))))) va_nil))))) (va_cons (vo_of (ve_tup (va_cons (vo_of (ve_var (pv 5))) (va_cons (vo_of (ve_op (op_addP rfl) os_add (vo_var (pv 5)) (vo_var (pv 1)))) (va_cons (vo_of (ve_op (op_addP rfl) os_add (vo_var (pv 5)) (vo_var (pv 1)))) va_nil))))) va_nil))))))
  (vb_one (vs_ret (ve_bl pe_bl)))
  vb_nil)
  (vb_cons (vs_if (vt_not (vt_tru rfl (vo_of (ve_call D__law_like.ok (hr.mono (by first | decide | omega)) (by rfl) D__law_like.m D__law_like.kp D__law_like.b .nil (fun _ _ => .nil) pass0 (va_cons (vo_of (ve_call D_least_counts.ok (hr.mono (by first | decide | omega)) (by rfl) D_least_counts.m D_least_counts.kp D_least_counts.b .nil (fun _ _ => .nil) pass0 (va_cons (vo_var (pv 1)) (va_cons (vo_var (pv 2)) (va_cons (vo_var (pv 3)) va_nil))))) (va_cons (vo_of (ve_tup (va_cons (vo_of (ve_var (pv 5))) (va_cons (vo_of (ve_ifE (vt_cmp op_gt os_gt (vo_var (pv 2)) (vo_of (ve_int pe_int)) (nomark _)) (ve_op (op_addP rfl) os_add (vo_of (ve_op (op_addP rfl) os_add (vo_of (ve_op (op_mulP rfl) os_mul (vo_of (ve_int pe_int)) (vo_var (pv 1)))) (vo_var (pv 2)))) (vo_var (pv 3))) (ve_int pe_int))) (va_cons (vo_of (ve_op (op_addP rfl) os_add (vo_of (ve_op (op_addP rfl) os_add (vo_of (ve_op (op_mulP rfl) os_mul (vo_of (ve_int pe_int)) (vo_var (pv 1)))) (vo_var (pv 2)))) (vo_var (pv 3)))) va_nil))))) va_nil))))))
  (vb_one (vs_ret (ve_bl pe_bl)))
  vb_nil)
  (vb_cons (vs_set (i := 6) sc__law_borders_right.nd rfl (by first | exact Or.inl rfl | exact Or.inr rfl) (ve_call D_least_numbers.ok (hr.mono (by first | decide | omega)) (by rfl) D_least_numbers.m D_least_numbers.kp D_least_numbers.b .nil (fun _ _ => .nil) pass0 (va_cons (vo_var (pv 1)) (va_cons (vo_var (pv 2)) (va_cons (vo_var (pv 4)) (va_cons (vo_var (pv 3)) va_nil))))))
  (vb_cons (vs_if (vt_cmp op_gt os_gt (vo_var (pv 5)) (vo_of (ve_int pe_int)) (nomark _))
  (vb_one (vs_ret (ve_cmp op_isN os_isN (vo_var (pv 6)) (vo_of (ve_non pe_non)) (nomark _))))
  vb_nil)
  (vb_cons (vs_if (VW.vt (vw_or (vt_not (vt_tru rfl (vo_of (ve_isiO (cs := ["Numbers", "Thin"]) (c := "Numbers") rfl (vo_var (pv 6)) (pe_glob (v := .ref T.C_Numbers) (by rfl) T.m_Numbers rfl) (by rfl) T.isinstance T.known T.kB_Numbers T.kC_Numbers)))) (vw_or (vt_cmp (kop_neD rfl hr.units) os_ne (vo_of (ve_fld rfl (ve_var (pv 6)) rfl)) (vo_var (pv 5)) (nomark _)) (vw_or (vt_cmp op_notBl os_notB (vo_of (ve_call D_is_single.ok (hr.mono (by first | decide | omega)) (by rfl) D_is_single.m D_is_single.kp D_is_single.b .nil (fun _ _ => .nil) pass0 (va_cons (vo_var (pv 6)) (va_cons (vo_var (pv 2)) va_nil)))) (vo_of (ve_bl pe_bl)) (nomark _)) (vw_or (vt_cmp op_notBl os_notB (vo_of (ve_call D_is_lasting.ok (hr.mono (by first | decide | omega)) (by rfl) D_is_lasting.m D_is_lasting.kp D_is_lasting.b .nil (fun _ _ => .nil) pass0 (va_cons (vo_var (pv 6)) (va_cons (vo_var (pv 2)) va_nil)))) (vo_of (ve_bl pe_bl)) (nomark _)) (vw_or1 (vt_cmp op_notBl os_notB (vo_of (ve_call D_can_end.ok (hr.mono (by first | decide | omega)) (by rfl) D_can_end.m D_can_end.kp D_can_end.b .nil (fun _ _ => .nil) pass0 (va_cons (vo_var (pv 6)) va_nil))) (vo_of (ve_bl pe_bl)) (nomark _))))))))
  (vb_one (vs_ret (ve_bl pe_bl)))
  vb_nil)
  (vb_cons (vs_if (VW.vt (vw_or (vt_cmp op_notBl os_notB (vo_of (ve_call D_sees_with_ends.ok (hr.mono (by first | decide | omega)) (by rfl) D_sees_with_ends.m D_sees_with_ends.kp D_sees_with_ends.b .nil (fun _ _ => .nil) pass0 (va_cons (vo_var (pv 6)) (va_cons (vo_var (pv 2)) va_nil)))) (vo_of (ve_bl pe_bl)) (nomark _)) (vw_or1 (vt_cmp op_gt os_gt (vo_of (ve_ix rfl (vo_of (ve_call D_least_asked.ok (hr.mono (by first | decide | omega)) (by rfl) D_least_asked.m D_least_asked.kp D_least_asked.b .nil (fun _ _ => .nil) pass0 (va_cons (vo_var (pv 6)) (va_cons (vo_var (pv 2)) va_nil)))) (vo_of (ve_int pe_int)) (fun _ _ => rfl))) (vo_of (ve_op op_sub os_sub (vo_var (pv 5)) (vo_var (pv 1)))) (nomark _)))))
  (vb_one (vs_ret (ve_bl pe_bl)))
  vb_nil)
  (vb_cons (vs_if (VW.vt (vw_or (vt_cmp (kop_eqD rfl hr.units) os_eq (vo_of (ve_call D_least_triples.ok (hr.mono (by first | decide | omega)) (by rfl) D_least_triples.m D_least_triples.kp D_least_triples.b .nil (fun _ _ => .nil) pass0 (va_cons (vo_var (pv 5)) (va_cons (vo_var (pv 1)) (va_cons (vo_var (pv 3)) (va_cons (vo_var (pv 2)) (va_cons (vo_of (ve_op op_sub os_sub (vo_var (pv 5)) (vo_var (pv 1)))) va_nil))))))) (vo_of (ve_tup va_nil)) (nomark _)) (vw_or1 (VW.vt (vw_and (vt_cmp op_gt os_gt (vo_var (pv 2)) (vo_of (ve_int pe_int)) (nomark _)) (vw_and (vt_cmp op_gt os_gt (vo_var (pv 5)) (vo_of (ve_int pe_int)) (nomark _)) (vw_and (vt_cmp op_lt os_lt (vo_var (pv 1)) (vo_of (ve_op op_sub os_sub (vo_var (pv 5)) (vo_of (ve_int pe_int)))) (nomark _)) (vw_and (vt_cmp (kop_neD rfl hr.units) os_ne (vo_of (ve_call D_least_triples.ok (hr.mono (by first | decide | omega)) (by rfl) D_least_triples.m D_least_triples.kp D_least_triples.b .nil (fun _ _ => .nil) pass0 (va_cons (vo_of (ve_op op_sub os_sub (vo_var (pv 5)) (vo_of (ve_int pe_int)))) (va_cons (vo_var (pv 1)) (va_cons (vo_var (pv 3)) (va_cons (vo_var (pv 2)) (va_cons (vo_of (ve_op op_sub os_sub (vo_of (ve_op op_sub os_sub (vo_var (pv 5)) (vo_of (ve_int pe_int)))) (vo_var (pv 1)))) va_nil))))))) (vo_of (ve_tup va_nil)) (nomark _)) (vw_and1 (vt_cmp op_le os_le (vo_var (pv 3)) (vo_of (ve_op op_sub os_sub (vo_var (pv 5)) (vo_of (ve_int pe_int)))) (nomark _)))))))))))
  (vb_one (vs_ret (ve_bl pe_bl)))
  vb_nil)
  (vb_cons (vs_set (i := 7) sc__law_borders_right.nd rfl (by first | exact Or.inl rfl | exact Or.inr rfl) (ve_tup (va_cons (vo_of (ve_rgT1 rfl (by rfl) T.tuple (by rfl) T.range (ve_var (pv 5)))) (va_cons (vo_of (ve_rgT rfl (by rfl) T.tuple (by rfl) T.range (ve_var (pv 2)) (ve_op (op_addP rfl) os_add (vo_var (pv 5)) (vo_var (pv 2))))) va_nil))))
  (vb_cons (vs_for PassesOwn.never rfl (vi_seq rfl (vo_of (ve_fz (vf_lst (va_cons (vo_of (ve_tup (va_cons (vo_of (ve_var (pv 7))) (va_cons (vo_of (ve_bl pe_bl)) va_nil)))) (va_cons (vo_of (ve_tup (va_cons (vo_of (ve_ct (kcall_tuple_of rfl) cs_tuple (by rfl) T.tuple (by decide +kernel) (va_cons (vo_of (ve_fz (vf_lc (own := [("lot", 10)]) rfl sc__law_borders_right.nd (vi_seq rfl (vo_var (pv 7))) (blkOk_by (own := [("lot", 10)]) (N := N__law_borders_right) (sc := defScope s__law_borders_right) (by decide +kernel)) (fun _ _ _ _ _ => (vg_name (i := 10) sc__law_borders_right.nd rfl (by first | exact Or.inl rfl | exact Or.inr rfl))) (fun _ _ _ _ _ => vts_nil) (fun _ _ _ _ _ => (ve_sl rfl (vo_var (pv 10)) (vp_some (ve_int pe_int)) vp_none))))) va_nil))) (va_cons (vo_of (ve_bl pe_bl)) va_nil)))) va_nil)))))) (vg_tup rfl rfl (vgs_cons (vg_name (i := 8) sc__law_borders_right.nd rfl (by first | exact Or.inl rfl | exact Or.inr rfl)) (vgs_cons (vg_name (i := 9) sc__law_borders_right.nd rfl (by first | exact Or.inl rfl | exact Or.inr rfl)) vgs_nil)))
  (vb_one (vs_if (VW.vt (vw_and (vt_cmp op_gt os_gt (vo_of (ve_cb (cr_lenP rfl) cs_len (by rfl) T.len (by decide +kernel) (va_cons (vo_of (ve_ix rfl (vo_var (pv 8)) (vo_of (ve_int pe_int)) (fun _ _ => rfl))) va_nil))) (vo_var (pv 1)) (nomark _)) (vw_and1 (vt_cmp (kop_neD rfl hr.units) os_ne (vo_of (ve_isiO (cs := ["Numbers", "Thin"]) (c := "Thin") rfl (vo_of (ve_call D_thin_of.ok (hr.mono (by first | decide | omega)) (by rfl) D_thin_of.m D_thin_of.kp D_thin_of.b .nil (fun _ _ => .nil) pass0 (va_cons (vo_var (pv 8)) (va_cons (vo_var (pv 1)) (va_cons (vo_of (ve_int pe_int)) (va_cons (vo_of (ve_call D_most_common.ok (hr.mono (by first | decide | omega)) (by rfl) D_most_common.m D_most_common.kp D_most_common.b .nil (fun _ _ => .nil) pass0 (va_cons (vo_var (pv 1)) (va_cons (vo_var (pv 3)) (va_cons (vo_of (ve_bl pe_bl)) va_nil))))) va_nil)))))) (pe_glob (v := .ref T.C_Thin) (by rfl) T.m_Thin rfl) (by rfl) T.isinstance T.known T.kB_Thin T.kC_Thin)) (vo_var (pv 9)) (nomark _)))))
  (vb_one (vs_ret (ve_bl pe_bl)))
  vb_nil)))
  (vb_one (vs_ret (ve_bl pe_bl))))))))))))) h)
theorem ok_law {f : Addr} {fd : FuncData} (F : Fun K "law" "law" s_law f fd) (T : Txt K mg) (D__law_heap : Df P w K mg base 1 "_law_heap" ["script"] (spV (gxOf K w mg) W__law_heap)) (D__law_sums_right : Df P w K mg base 5 "_law_sums_right" ["parts", "most"] (spV (gxOf K w mg) W__law_sums_right)) (D__law_borders_right : Df P w K mg base 6 "_law_borders_right" ["heap", "f", "most", "m", "d"] (spV (gxOf K w mg) W__law_borders_right)) (D__law_draw : Df P w K mg base 1 "_law_draw" ["heap", "many"] (spV (gxOf K w mg) W__law_draw)) (D__law_pick : Df P w K mg base 2 "_law_pick" ["heap", "some"] (spV (gxOf K w mg) W__law_pick)) (D__law_never_open : Df P w K mg base 5 "_law_never_open" ["heap", "parts", "most", "need"] (spV (gxOf K w mg) W__law_never_open)) (D__law_some_open : Df P w K mg base 5 "_law_some_open" ["parts", "most", "need"] (spV (gxOf K w mg) W__law_some_open)) : FnOk P w K mg base CX0 7 f fd ["script"] (spV (gxOf K w mg) W_law) := by
  refine F.ok sc_law (fun vs H Q E h => spV_len (fun h => h.1) h) (fun cdv A outer s H vs Q E hr h => okV (N := N_law) rfl
  (vb_cons (vs_set (i := 1) sc_law.nd rfl (by first | exact Or.inl rfl | exact Or.inr rfl) (ve_call D__law_heap.ok (hr.mono (by first | decide | omega)) (by rfl) D__law_heap.m D__law_heap.kp D__law_heap.b .nil (fun _ _ => .nil) pass0 (va_cons (vo_var (pv 0)) va_nil)))
  (vb_cons (vs_for PassesOwn.never rfl (vi_rg1 (by rfl) T.range (va_cons (vo_of (ve_int pe_int)) va_nil)) (vg_name (i := 2) sc_law.nd rfl (by first | exact Or.inl rfl | exact Or.inr rfl))
  (vb_cons (vs_set (i := 3) sc_law.nd rfl (by first | exact Or.inl rfl | exact Or.inr rfl) (ve_op (op_addP rfl) os_add (vo_of (ve_int pe_int)) (vo_of (ve_call D__law_draw.ok (hr.mono (by first | decide | omega)) (by rfl) D__law_draw.m D__law_draw.kp D__law_draw.b .nil (fun _ _ => .nil) pass0 (va_cons (vo_var (pv 1)) (va_cons (vo_of (ve_call D__law_pick.ok (hr.mono (by first | decide | omega)) (by rfl) D__law_pick.m D__law_pick.kp D__law_pick.b .nil (fun _ _ => .nil) pass0 (va_cons (vo_var (pv 1)) (va_cons (vo_of (ve_fz (vf_lst (va_cons (vo_of (ve_int pe_int)) (va_cons (vo_of (ve_int pe_int)) (va_cons (vo_of (ve_int pe_int)) va_nil)))))) va_nil)))) va_nil))))))
  (vb_cons (vs_parT (is := [4, 5, 6, 7]) (vqs_cons (vq_v (ve_cb (cr_minP rfl rfl (room65 hr)) cs_min (by rfl) T.min (by decide +kernel) (va_cons (vo_var (pv 3)) (va_cons (vo_of (ve_call D__law_pick.ok (hr.mono (by first | decide | omega)) (by rfl) D__law_pick.m D__law_pick.kp D__law_pick.b .nil (fun _ _ => .nil) pass0 (va_cons (vo_var (pv 1)) (va_cons (vo_of (ve_fz (vf_lst (va_cons (vo_of (ve_int pe_int)) (va_cons (vo_of (ve_int pe_int)) (va_cons (vo_of (ve_int pe_int)) (va_cons (vo_of (ve_int pe_int)) va_nil))))))) va_nil)))) va_nil)))) (vqs_cons (vq_v (ve_cb (cr_minP rfl rfl (room65 hr)) cs_min (by rfl) T.min (by decide +kernel) (va_cons (vo_var (pv 3)) (va_cons (vo_of (ve_call D__law_pick.ok (hr.mono (by first | decide | omega)) (by rfl) D__law_pick.m D__law_pick.kp D__law_pick.b .nil (fun _ _ => .nil) pass0 (va_cons (vo_var (pv 1)) (va_cons (vo_of (ve_fz (vf_lst (va_cons (vo_of (ve_int pe_int)) (va_cons (vo_of (ve_int pe_int)) (va_cons (vo_of (ve_int pe_int)) (va_cons (vo_of (ve_int pe_int)) (va_cons (vo_of (ve_int pe_int)) va_nil)))))))) va_nil)))) va_nil)))) (vqs_cons (vq_v (ve_op (op_addP rfl) os_add (vo_of (ve_int pe_int)) (vo_of (ve_call D__law_draw.ok (hr.mono (by first | decide | omega)) (by rfl) D__law_draw.m D__law_draw.kp D__law_draw.b .nil (fun _ _ => .nil) pass0 (va_cons (vo_var (pv 1)) (va_cons (vo_of (ve_cb (cr_minP rfl rfl (room65 hr)) cs_min (by rfl) T.min (by decide +kernel) (va_cons (vo_var (pv 3)) (va_cons (vo_of (ve_int pe_int)) va_nil)))) va_nil)))))) (vqs_cons (vq_v (ve_op (op_addP rfl) os_add (vo_of (ve_int pe_int)) (vo_of (ve_call D__law_draw.ok (hr.mono (by first | decide | omega)) (by rfl) D__law_draw.m D__law_draw.kp D__law_draw.b .nil (fun _ _ => .nil) pass0 (va_cons (vo_var (pv 1)) (va_cons (vo_of (ve_int pe_int)) va_nil)))))) vqs_nil)))) (kpg_tup (K := K) (n := 4) rfl rfl (pgs_cons (pg_name (i := 4) sc_law.nd rfl (by first | exact Or.inl rfl | exact Or.inr rfl)) (pgs_cons (pg_name (i := 5) sc_law.nd rfl (by first | exact Or.inl rfl | exact Or.inr rfl)) (pgs_cons (pg_name (i := 6) sc_law.nd rfl (by first | exact Or.inl rfl | exact Or.inr rfl)) (pgs_cons (pg_name (i := 7) sc_law.nd rfl (by first | exact Or.inl rfl | exact Or.inr rfl)) pgs_nil))))))
  (vb_cons (vs_par3 (i := 8) (j := 9) (l := 10) rfl sc_law.nd rfl rfl rfl  (by decide) (by decide) (by decide)  rfl rfl rfl  (vqs_cons (vq_v (ve_call D__law_pick.ok (hr.mono (by first | decide | omega)) (by rfl) D__law_pick.m D__law_pick.kp D__law_pick.b .nil (fun _ _ => .nil) pass0 (va_cons (vo_var (pv 1)) (va_cons (vo_of (ve_fz (vf_lst (va_cons (vo_of (ve_int pe_int)) (va_cons (vo_of (ve_var (pv 6))) (va_cons (vo_of (ve_op (op_addP rfl) os_add (vo_var (pv 6)) (vo_var (pv 4)))) va_nil)))))) va_nil)))) (vqs_cons (vq_v (ve_op (op_addP rfl) os_add (vo_of (ve_op (op_addP rfl) os_add (vo_var (pv 3)) (vo_var (pv 5)))) (vo_var (pv 4)))) (vqs_cons (vq_v (ve_op (op_addP rfl) os_add (vo_of (ve_int pe_int)) (vo_of (ve_call D__law_draw.ok (hr.mono (by first | decide | omega)) (by rfl) D__law_draw.m D__law_draw.kp D__law_draw.b .nil (fun _ _ => .nil) pass0 (va_cons (vo_var (pv 1)) (va_cons (vo_var (pv 3)) va_nil)))))) vqs_nil))) (by rfl))
  (vb_cons (vs_set (i := 11) sc_law.nd rfl (by first | exact Or.inl rfl | exact Or.inr rfl) (ve_cb (cr_maxP rfl rfl (room65 hr)) cs_max (by rfl) T.max (by decide +kernel) (va_cons (vo_of (ve_int pe_int)) (va_cons (vo_of (ve_cb (cr_minP rfl rfl (room65 hr)) cs_min (by rfl) T.min (by decide +kernel) (va_cons (vo_var (pv 3)) (va_cons (vo_of (ve_call D__law_pick.ok (hr.mono (by first | decide | omega)) (by rfl) D__law_pick.m D__law_pick.kp D__law_pick.b .nil (fun _ _ => .nil) pass0 (va_cons (vo_var (pv 1)) (va_cons (vo_of (ve_fz (vf_lst (va_cons (vo_of (ve_op op_fdivW os_div (vo_var (pv 9)) (vo_of (ve_int pe_int)))) (va_cons (vo_of (ve_op (op_addP rfl) os_add (vo_of (ve_op op_fdivW os_div (vo_var (pv 9)) (vo_of (ve_int pe_int)))) (vo_of (ve_int pe_int)))) (va_cons (vo_of (ve_var (pv 3))) va_nil)))))) va_nil)))) va_nil)))) va_nil))))
  (vb_cons (vs_set (i := 12) sc_law.nd rfl (by first | exact Or.inl rfl | exact Or.inr rfl) (ve_cb (cr_maxP rfl rfl (room65 hr)) cs_max (by rfl) T.max (by decide +kernel) (va_cons (vo_of (ve_int pe_int)) (va_cons (vo_of (ve_cb (cr_minP rfl rfl (room65 hr)) cs_min (by rfl) T.min (by decide +kernel) (va_cons (vo_var (pv 3)) (va_cons (vo_of (ve_call D__law_pick.ok (hr.mono (by first | decide | omega)) (by rfl) D__law_pick.m D__law_pick.kp D__law_pick.b .nil (fun _ _ => .nil) pass0 (va_cons (vo_var (pv 1)) (va_cons (vo_of (ve_fz (vf_lst (va_cons (vo_of (ve_op op_sub os_sub (vo_of (ve_op (op_addP rfl) os_add (vo_var (pv 9)) (vo_var (pv 8)))) (vo_var (pv 10)))) (va_cons (vo_of (ve_op op_sub os_sub (vo_of (ve_op op_sub os_sub (vo_of (ve_op (op_addP rfl) os_add (vo_var (pv 9)) (vo_var (pv 8)))) (vo_var (pv 10)))) (vo_of (ve_int pe_int)))) (va_cons (vo_of (ve_op (op_addP rfl) os_add (vo_of (ve_int pe_int)) (vo_of (ve_call D__law_draw.ok (hr.mono (by first | decide | omega)) (by rfl) D__law_draw.m D__law_draw.kp D__law_draw.b .nil (fun _ _ => .nil) pass0 (va_cons (vo_var (pv 1)) (va_cons (vo_var (pv 3)) va_nil)))))) va_nil)))))) va_nil)))) va_nil)))) va_nil))))
  (vb_cons (vs_set (i := 13) sc_law.nd rfl (by first | exact Or.inl rfl | exact Or.inr rfl) (ve_tup (va_cons (vo_of (ve_var (pv 3))) (va_cons (vo_of (ve_var (pv 4))) (va_cons (vo_of (ve_var (pv 7))) (va_cons (vo_of (ve_var (pv 6))) (va_cons (vo_of (ve_var (pv 11))) (va_cons (vo_of (ve_var (pv 10))) (va_cons (vo_of (ve_var (pv 12))) va_nil)))))))))
  (vb_cons (vs_if (vt_not (vt_tru rfl (vo_of (ve_call D__law_sums_right.ok (hr.mono (by first | decide | omega)) (by rfl) D__law_sums_right.m D__law_sums_right.kp D__law_sums_right.b .nil (fun _ _ => .nil) pass0 (va_cons (vo_var (pv 13)) (va_cons (vo_var (pv 5)) va_nil))))))
  (vb_one (vs_ret (ve_bl pe_bl)))
  vb_nil)
  (vb_cons (vs_if (VW.vt (vw_and (vt_cmp op_gt os_gt (vo_var (pv 5)) (vo_of (ve_int pe_int)) (nomark _)) (vw_and1 (VW.vt (vw_or (vt_not (vt_tru rfl (vo_of (ve_call D__law_never_open.ok (hr.mono (by first | decide | omega)) (by rfl) D__law_never_open.m D__law_never_open.kp D__law_never_open.b .nil (fun _ _ => .nil) pass0 (va_cons (vo_var (pv 1)) (va_cons (vo_var (pv 13)) (va_cons (vo_var (pv 5)) (va_cons (vo_var (pv 8)) va_nil)))))))) (vw_or1 (vt_not (vt_tru rfl (vo_of (ve_call D__law_some_open.ok (hr.mono (by first | decide | omega)) (by rfl) D__law_some_open.m D__law_some_open.kp D__law_some_open.b .nil (fun _ _ => .nil) pass0 (va_cons (vo_var (pv 13)) (va_cons (vo_var (pv 5)) (va_cons (vo_var (pv 8)) va_nil)))))))))))))
  (vb_one (vs_ret (ve_bl pe_bl)))
  vb_nil)
  (vb_one (vs_if (vt_not (vt_tru rfl (vo_of (ve_call D__law_borders_right.ok (hr.mono (by first | decide | omega)) (by rfl) D__law_borders_right.m D__law_borders_right.kp D__law_borders_right.b .nil (fun _ _ => .nil) pass0 (va_cons (vo_var (pv 1)) (va_cons (vo_of (ve_call D__law_draw.ok (hr.mono (by first | decide | omega)) (by rfl) D__law_draw.m D__law_draw.kp D__law_draw.b .nil (fun _ _ => .nil) pass0 (va_cons (vo_var (pv 1)) (va_cons (vo_of (ve_int pe_int)) va_nil)))) (va_cons (vo_of (ve_call D__law_draw.ok (hr.mono (by first | decide | omega)) (by rfl) D__law_draw.m D__law_draw.kp D__law_draw.b .nil (fun _ _ => .nil) pass0 (va_cons (vo_var (pv 1)) (va_cons (vo_of (ve_int pe_int)) va_nil)))) (va_cons (vo_of (ve_op (op_addP rfl) os_add (vo_of (ve_int pe_int)) (vo_of (ve_call D__law_draw.ok (hr.mono (by first | decide | omega)) (by rfl) D__law_draw.m D__law_draw.kp D__law_draw.b .nil (fun _ _ => .nil) pass0 (va_cons (vo_var (pv 1)) (va_cons (vo_of (ve_int pe_int)) va_nil)))))) (va_cons (vo_var (pv 7)) va_nil)))))))))
  (vb_one (vs_ret (ve_bl pe_bl)))
  vb_nil)))))))))))
  (vb_one (vs_ret (ve_and (ve_call D__law_sums_right.ok (hr.mono (by first | decide | omega)) (by rfl) D__law_sums_right.m D__law_sums_right.kp D__law_sums_right.b .nil (fun _ _ => .nil) pass0 (va_cons (vo_of (ve_tup (va_cons (vo_of (ve_int pe_int)) (va_cons (vo_of (ve_int pe_int)) (va_cons (vo_of (ve_int pe_int)) (va_cons (vo_of (ve_int pe_int)) (va_cons (vo_of (ve_int pe_int)) (va_cons (vo_of (ve_int pe_int)) (va_cons (vo_of (ve_int pe_int)) va_nil))))))))) (va_cons (vo_of (ve_int pe_int)) va_nil))) (ve_one (ve_call D__law_borders_right.ok (hr.mono (by first | decide | omega)) (by rfl) D__law_borders_right.m D__law_borders_right.kp D__law_borders_right.b .nil (fun _ _ => .nil) pass0 (va_cons (vo_var (pv 1)) (va_cons (vo_of (ve_int pe_int)) (va_cons (vo_of (ve_int pe_int)) (va_cons (vo_of (ve_int pe_int)) (va_cons (vo_of (ve_int pe_int)) va_nil)))))))))))) h)
end
end K78

namespace K78
open PySem PySem.Spec PyProof.Rows L2 Hl Vl
/-! ### the law's own defs -/
theorem lay_ints : ∀ ns : List Int, PyData.canLayAll0 (ns.map PyData.int) = true
  | [] => by simp [PyData.canLayAll0]
  | n :: r => by simp [PyData.canLayAll0, PyData.canLay0, lay_ints r]
theorem depth_ints : ∀ ns : List Int, PyData.depthAll (ns.map PyData.int) = 0
  | [] => by simp [PyData.depthAll]
  | n :: r => by
    have h := depth_ints r
    simp only [List.map_cons, PyData.depthAll, PyData.depth, h]
    rfl
theorem shaped_ints (ns : List Int) : SeqAt.shaped (.list (ns.map PyData.int)) = true := by
  show ((PyData.list (ns.map PyData.int)).canLay0 && decide ((PyData.list (ns.map PyData.int)).depth ≤ 64)) = true
  simp only [PyData.canLay0, PyData.depth, lay_ints, depth_ints]
  rfl
theorem at_last (cs : List Int) (h : cs ≠ []) : atI (cs.map V.int) (-1) = some (.int (cs.getLast h)) := by
  have e : cs.map V.int = cs.dropLast.map V.int ++ [.int (cs.getLast h)] := by
    rw [← List.map_singleton, ← List.map_append, List.dropLast_concat_getLast]
  rw [e]
  exact atI_last _ _
theorem get_last (cs : List Int) (h : cs ≠ []) : (cs.map V.int)[(cs.map V.int).length - 1]? = some (.int (cs.getLast h)) := by
  rw [← List.getLast?_eq_getElem?, List.getLast?_map, List.getLast?_eq_getLast h]
  rfl
section
variable {P : Program} {w : World} {K : PySem.W.Frag} {mg : Str → Option Value} {base : Heap}

theorem ok_draw {f : Addr} {fd : FuncData} (F : Fun K "_law_draw" "_law_draw" s__law_draw f fd) (T : Txt K mg) : FnOk P w K mg base CX0 1 f fd ["heap", "many"] sp_draw := by
  refine F.ok sc__law_draw (fun vs H Q E h => ?_) (fun cdv A outer s H vs Q E hr h => ?_)
  · obtain ⟨_, _, _, rfl, _⟩ := h
    rfl
  · obtain ⟨w, q, many, rfl, ⟨cs0, st, hw, hq, hp, hl, hs1, hs2⟩, m0, m1, k⟩ := h
    refine ⟨_, (pss_cons (ps_while PassesOwn.never (PW.pt (pw_and (pt_cmpR (op_neD hr.units) (pe_ix ix_list (pv 0) pe_int (fun _ _ => rfl)) (pe_lst pa_nil) (nomark _)) (pw_and1 (pt_cmpR op_eq (pe_ix ix_list (pe_ix ix_list (pv 0) pe_int (fun _ _ => rfl)) (pe_un un_neg pe_int) (fun _ _ => rfl)) pe_int (nomark _)))))
  (pss_one (ps_expr (pe_bm0 PySem.F.plainAttrs_list PySem.F.slot_list_pop PySem.F.type_list_pop mt_pop (pe_ix ix_list (pv 0) pe_int (fun _ _ => rfl))))))
  (pss_cons (ps_if (pt_cmpR (op_neD hr.units) (pe_ix ix_list (pv 0) pe_int (fun _ _ => rfl)) (pe_lst pa_nil) (nomark _))
  (pss_cons (ps_set (i := 2) sc__law_draw.nd rfl (by first | exact Or.inl rfl | exact Or.inr rfl) (pe_bm0 PySem.F.plainAttrs_list PySem.F.slot_list_pop PySem.F.type_list_pop mt_pop (pe_ix ix_list (pv 0) pe_int (fun _ _ => rfl))))
  (pss_cons (ps_expr (pe_bm PySem.F.plainAttrs_list PySem.F.slot_list_append PySem.F.type_list_append mt_append (pe_ix ix_list (pv 0) pe_int (fun _ _ => rfl)) (pa_cons (pe_op op_fdivN (pv 2) (pv 1)) pa_nil)))
  (pss_one (ps_ret (pe_op op_mod (pe_callTy call_int1 (by rfl) T.int (by decide +kernel) (pa_cons (pv 2) pa_nil)) (pv 1))))))
  pss_nil)
  (pss_cons (ps_asg (pe_op op_mod (pe_callTy call_int1 (by rfl) T.int (by decide +kernel) (pa_cons (pe_op op_add (pe_op op_mul (pe_ix ix_list (pv 0) pe_int (fun _ _ => rfl)) pe_int) pe_int) pa_nil)) pe_int) (pg_sub (pv 0) pe_int set_list))
  (pss_one (ps_ret (pe_op op_mod (pe_callTy call_int1 (by rfl) T.int (by decide +kernel) (pa_cons (pe_op op_fdivN (pe_ix ix_list (pv 0) pe_int (fun _ _ => rfl)) pe_int) pa_nil)) (pv 1))))))), ?_⟩
    -- is a list of ints another one than []
    have test : ∀ {H1 : Hp} {cs : List Int} {p : Addr} {R : VK}, H1 q = some (.lst (cs.map V.int)) → H1 p = none → R (.bl (!cs.isEmpty)) (upd H1 p (.lst [])) → rNeD K (.ref q) (.ref p) (upd H1 p (.lst [])) R := fun {H1 cs p R} h1 h2 r => by
      refine ⟨.list (cs.map PyData.int), .list [], .lst (SqL.of (by rw [upd_ne (ne_of_none h1 h2)]; exact h1)) (dps_ints cs), .lst (SqL.of upd_same) .nil, shaped_ints cs, rfl, ?_⟩
      cases cs with
      | nil => exact r
      | cons c r' => exact r
    refine while_ex (fun m σ H' => σ = [some (.ref w), some (.int many), none] ∧ ∃ cs : List Int, m = cs.length ∧ H' w = some (.lst [.ref q, .int st]) ∧ H' q = some (.lst (cs.map V.int)) ∧ (∀ c ∈ cs, 0 ≤ c) ∧ cs.length ≤ 63 ∧ Frm w q H H')
      (fun σ H' => σ = [some (.ref w), some (.int many), none] ∧ ∃ cs : List Int, H' w = some (.lst [.ref q, .int st]) ∧ H' q = some (.lst (cs.map V.int)) ∧ (∀ c ∈ cs, 0 ≤ c) ∧ cs.length ≤ 63 ∧ Frm w q H H')
      ⟨cs0.length, rfl, cs0, rfl, hw, hq, hp, hl, Frm.refl _ _ _⟩ ?_ ?_
    · rintro m σ H1 ⟨rfl, cs, rfl, hw, hq, hp, hl, fr⟩ Z hZ
      have nwq : w ≠ q := fun e => by
        rw [e, hq] at hw
        cases cs with
        | nil => simp at hw
        | cons c r => simp at hw
      refine ⟨_, rfl, w, _, 0, _, rfl, rfl, SqL.of hw, atI_nat (j := 0) rfl, Nat.zero_le _, fun p hpn => ?_⟩
      have sm : Same H1 (upd H1 p (.lst [])) := same_new hpn
      have hw3 := sm _ _ hw
      have hq3 := sm _ _ hq
      refine test hq hpn ⟨_, rfl, ?_⟩
      by_cases hcs : cs = []
      · subst hcs
        exact iteF (iteF (hZ _ _ ⟨rfl, [], hw3, hq3, hp, hl, fr.trans (Frm.same sm)⟩))
      · have hem : (!cs.isEmpty) = true := by cases cs with
          | nil => exact absurd rfl hcs
          | cons _ _ => rfl
        rw [hem]
        refine iteT ?_
        refine ⟨_, rfl, w, _, 0, _, rfl, rfl, SqL.of hw3, atI_nat (j := 0) rfl, _, rfl, q, _, -1, _, rfl, rfl, SqL.of hq3, at_last cs hcs, rfl, _, rfl, ite_dec (fun z => ?_) (fun z => ?_)⟩
        · refine ⟨fun σ' H' => σ' = [some (.ref w), some (.int many), none] ∧ ∃ cs' : List Int, cs'.length < cs.length ∧ H' w = some (.lst [.ref q, .int st]) ∧ H' q = some (.lst (cs'.map V.int)) ∧ (∀ c ∈ cs', 0 ≤ c) ∧ cs'.length ≤ 63 ∧ Frm w q H H', ?_, ?_⟩
          · rintro σ' H' ⟨rfl, cs', h1, h2, h3, h4, h5, h6⟩
            exact ⟨_, h1, rfl, cs', rfl, h2, h3, h4, h5, h6⟩
          · refine ⟨_, rfl, w, _, 0, _, rfl, rfl, SqL.of hw3, atI_nat (j := 0) rfl, .inl ⟨rfl, _, SqL.of hq3⟩, q, _, _, rfl, rfl, hq3, get_last cs hcs, ?_⟩
            have hpos : 0 < cs.length := List.length_pos_iff.mpr hcs
            refine ⟨rfl, cs.dropLast, by rw [List.length_dropLast]; omega, ?_, ?_, fun c hc => hp _ (List.dropLast_subset _ hc), by rw [List.length_dropLast]; omega, (fr.trans (Frm.same sm)).q⟩
            · rw [upd_ne nwq]; exact hw3
            · rw [upd_same, List.map_dropLast]
        · exact hZ _ _ ⟨rfl, cs, hw3, hq3, hp, hl, fr.trans (Frm.same sm)⟩
    · rintro σ H2 ⟨rfl, cs, hw2, hq2, hp, hl, fr2⟩
      have nwq : w ≠ q := fun e => by
        rw [e, hq2] at hw2
        cases cs with
        | nil => simp at hw2
        | cons c r => simp at hw2
      refine ⟨_, rfl, w, _, 0, _, rfl, rfl, SqL.of hw2, atI_nat (j := 0) rfl, Nat.zero_le _, fun p hpn => ?_⟩
      have sm3 : Same H2 (upd H2 p (.lst [])) := same_new hpn
      have hw3 := sm3 _ _ hw2
      have hq3 := sm3 _ _ hq2
      have fr3 := fr2.trans (Frm.same (w := w) (q := q) sm3)
      refine test hq2 hpn ⟨_, rfl, ?_⟩
      by_cases hcs : cs = []
      · subst hcs
        refine iteF ?_
        refine ⟨_, rfl, w, _, 1, _, rfl, rfl, SqL.of hw3, atI_nat (j := 1) rfl, _, _, rfl, rfl, .inl ⟨by omega, by omega⟩, _, _, rfl, rfl, .inl ⟨_, rfl, ?_⟩⟩
        refine ⟨_, _, rfl, rfl, (by show (0 : Int) < 2147483647; decide), ?_⟩
        refine ⟨_, rfl, w, _, 1, 1, rfl, rfl, hw3, rfl, ?_⟩
        refine ⟨_, rfl, w, _, 1, _, rfl, rfl, SqL.of upd_same, atI_nat (j := 1) rfl, _, _, rfl, rfl, ⟨by decide, by decide⟩, .inl ⟨_, rfl, _, rfl, _, _, rfl, rfl, m0, ?_⟩⟩
        refine k _ _ (Int.emod_nonneg _ (by omega)) (Int.emod_lt_of_pos _ m0) fr3.w ⟨[], _, upd_same, ?_, by simp, by simp, Int.emod_nonneg _ (by omega), Int.emod_lt_of_pos _ (by decide)⟩
        rw [upd_ne nwq.symm]
        exact hq3
      · have hne := hcs
        have hem : (!cs.isEmpty) = true := by cases cs with
          | nil => exact absurd rfl hcs
          | cons _ _ => rfl
        rw [hem]
        refine iteT ?_
        refine ⟨_, rfl, w, _, 0, _, rfl, rfl, SqL.of hw3, atI_nat (j := 0) rfl, .inl ⟨rfl, _, SqL.of hq3⟩, q, _, _, rfl, rfl, hq3, get_last cs hne, ?_⟩
        have hw4 : upd (upd H2 p (.lst [])) q (.lst (cs.map V.int).dropLast) w = some (.lst [.ref q, .int st]) := by rw [upd_ne nwq]; exact hw3
        refine ⟨_, rfl, w, _, 0, _, rfl, rfl, SqL.of hw4, atI_nat (j := 0) rfl, .inl ⟨rfl, _, SqL.of upd_same⟩, _, rfl, _, rfl, _, _, rfl, rfl, ⟨by omega, by omega⟩, q, _, _, rfl, rfl, upd_same, ?_, ?_⟩
        · rw [List.length_dropLast, List.length_map]
          exact Nat.lt_of_le_of_lt (Nat.le_trans (Nat.sub_le _ _) hl) (by decide)
        · refine ⟨_, rfl, .inl ⟨_, rfl, _, rfl, _, _, rfl, rfl, m0, ?_⟩⟩
          have hc0 : 0 ≤ cs.getLast hne := hp _ (List.getLast_mem hne)
          refine k _ _ (Int.emod_nonneg _ (by omega)) (Int.emod_lt_of_pos _ m0) (fr3.q.q) ⟨cs.dropLast ++ [(cs.getLast hne).fdiv many], st, ?_, ?_, ?_, ?_, hs1, hs2⟩
          · rw [upd_ne nwq]; exact hw4
          · rw [upd_same, List.map_append, List.map_dropLast]; rfl
          · intro x hx
            rcases List.mem_append.mp hx with hx | hx
            · exact hp _ (List.dropLast_subset _ hx)
            · rw [List.mem_singleton.mp hx, Int.fdiv_eq_ediv_of_nonneg _ (by omega)]
              exact Int.ediv_nonneg hc0 (by omega)
          · rw [List.length_append, List.length_dropLast, List.length_singleton]
            have : 0 < cs.length := List.length_pos_iff.mpr hne
            omega
end
theorem mem_ints {ns : List Int} {y : V} {i : Nat} (h : (ns.map V.int)[i]? = some y) : ∃ n, y = V.int n ∧ ns[i]? = some n := by
  rw [List.getElem?_map] at h
  cases e : ns[i]? with
  | none => rw [e] at h; cases h
  | some n => rw [e] at h; exact ⟨n, (Option.some.inj h).symm, rfl⟩
section
variable {P : Program} {w : World} {K : PySem.W.Frag} {mg : Str → Option Value} {base : Heap}
theorem ok_heap {f : Addr} {fd : FuncData} (F : Fun K "_law_heap" "_law_heap" s__law_heap f fd) (T : Txt K mg) : FnOk P w K mg base CX0 1 f fd ["script"] (sp_heap K) := by
  refine F.ok sc__law_heap (fun vs H Q E h => ?_) (fun cdv A outer s H vs Q E hr h => ?_)
  · obtain ⟨_, _, rfl, _⟩ := h
    rfl
  · obtain ⟨a, ns, rfl, hS, hl, k⟩ := h
    refine ⟨_, (pss_cons (ps_par (i := 1) (j := 2) rfl sc__law_heap.nd rfl rfl (by decide) rfl rfl (pa_cons (pe_lc (own := [("cell", 3)]) (by rfl) sc__law_heap.nd (pi_list (pe_slice sl_list (pv 0) po_none (po_some pe_int))) (blkOk_by (own := [("cell", 3)]) (N := N__law_heap) (sc := defScope s__law_heap) (by decide +kernel)) (fun _ _ _ _ _ => (pg_name (i := 3) sc__law_heap.nd rfl (by first | exact Or.inl rfl | exact Or.inr rfl))) (fun _ _ _ _ _ => pts_nil) (fun _ _ _ _ _ => (pe_op op_add (pe_op op_mul pe_int (pe_callB call_abs (by rfl) T.abs (by decide +kernel) (pa_cons (pv 3) pa_nil))) (pe_callTy call_int1 (by rfl) T.int (by decide +kernel) (pa_cons (pe_cmpR op_lt (pv 3) pe_int (nomark _)) pa_nil))))) (pa_cons pe_int pa_nil)) (by rfl))
  (pss_cons (ps_for PassesOwn.never rfl (pi_list (pv 1)) (pg_name (i := 3) sc__law_heap.nd rfl (by first | exact Or.inl rfl | exact Or.inr rfl))
  (pss_one (ps_set (i := 2) sc__law_heap.nd rfl (by first | exact Or.inl rfl | exact Or.inr rfl) (pe_op op_mod (pe_callTy call_int1 (by rfl) T.int (by decide +kernel) (pa_cons (pe_op op_add (pe_op op_add (pe_op op_mul (pv 2) pe_int) (pe_op op_mod (pe_callTy call_int1 (by rfl) T.int (by decide +kernel) (pa_cons (pv 3) pa_nil)) pe_int)) pe_int) pa_nil)) pe_int))))
  (pss_one (ps_ret (pe_lst (pa_cons (pe_revL (pe_lc (own := [("cell", 3)]) (by rfl) sc__law_heap.nd (pi_list (pv 1)) (blkOk_by (own := [("cell", 3)]) (N := N__law_heap) (sc := defScope s__law_heap) (by decide +kernel)) (fun _ _ _ _ _ => (pg_name (i := 3) sc__law_heap.nd rfl (by first | exact Or.inl rfl | exact Or.inr rfl))) (fun _ _ _ _ _ => (pts_one (pt_cmpR op_ge (pv 3) (pe_op op_pow pe_int pe_int) (nomark _)))) (fun _ _ _ _ _ => (pv 3)))) (pa_cons (pv 2) pa_nil))))))), ?_⟩
    refine ⟨_, rfl, 60, rfl, a, _, rfl, hS, fun p hp => ?_⟩
    have s1 : Same H (upd H p (.lst (cutV (ns.map V.int) none (some 60)))) := same_new hp
    have hcut : ∃ ms : List Int, cutV (ns.map V.int) none (some 60) = ms.map V.int ∧ ms.length ≤ 63 := by
      refine ⟨(ns.drop (HT.sIx (ns.map V.int).length 0 none)).take (HT.sIx (ns.map V.int).length (ns.map V.int).length (some 60) - HT.sIx (ns.map V.int).length 0 none), ?_, ?_⟩
      · unfold cutV
        rw [List.map_take, List.map_drop]
      · rw [List.length_take, List.length_drop]
        omega
    obtain ⟨ms, ems, hms⟩ := hcut
    rw [ems] at s1 ⊢
    refine ⟨p, rfl, ⟨_, SqL.of upd_same⟩, fun D hD => ?_⟩
    refine lc_same walk_list (by rw [List.length_map]; omega) hD ErI (fun _ _ _ _ _ _ h => h) (fun _ _ _ _ _ h => h) (fun i l => l.length ≤ i ∧ ∀ c ∈ l, 0 ≤ c) ⟨Nat.le_refl _, by simp⟩ (fun H2 sm => SqL.of (sm _ _ upd_same)) ?_ ?_
    · rintro i x H2 H3 l hi sm - ⟨hl1, hl2⟩ ⟨rfl, hx⟩ A B hA hB
      obtain ⟨c, rfl, _⟩ := mem_ints hx
      refine ⟨rfl, t_yes ?_⟩
      refine ⟨_, rfl, _, rfl, _, _, rfl, rfl, .inl ⟨by decide, by decide⟩, ?_⟩
      refine ⟨_, rfl, _, _, rfl, rfl, .inr ⟨_, rfl, ?_⟩⟩
      refine ⟨_, _, rfl, rfl, ?_⟩
      refine hA _ _ _ (Same.refl _) rfl ⟨by rw [List.length_append]; exact Nat.succ_le_succ hl1, fun z hz => ?_⟩
      rcases List.mem_append.mp hz with hz | hz
      · exact hl2 _ hz
      · rw [List.mem_singleton.mp hz]
        split <;> split <;> omega
    · rintro H2 us l sm hD2 hE ⟨hl1, hl2⟩
      have e := hE.ints
      subst e
      rw [List.length_map] at hl1
      refine ⟨_, _, rfl, ?_⟩
      refine ⟨_, rfl, D, rfl, ⟨_, SqL.of hD2⟩, for_list (xs := l.map V.int) (fun i σ H' => ∃ st x, σ = [some (.ref a), some (.ref D), some (.int st), x] ∧ 0 ≤ st ∧ st < 2147483647 ∧ H' = H2) ⟨_, none, rfl, by decide, by decide, rfl⟩ (fun i σ H' _ ⟨_, _, _, _, _, e⟩ => by rw [e]; exact SqL.of hD2) ?_ ?_⟩
      · rintro i y σ H' hy ⟨st, x, rfl, h0, h1, rfl⟩
        obtain ⟨c, rfl, _⟩ := mem_ints hy
        refine ⟨_, rfl, _, _, rfl, rfl, .inl ⟨by omega, by omega⟩, ?_⟩
        refine ⟨_, rfl, .inl ⟨_, rfl, _, _, rfl, rfl, (by show (0 : Int) < 2147483563; decide), ?_⟩⟩
        refine ⟨_, _, rfl, rfl, _, _, rfl, rfl, .inl ⟨_, rfl, _, _, rfl, rfl, (by show (0 : Int) < 2147483647; decide), ?_⟩⟩
        exact ⟨_, _, rfl, Int.emod_nonneg _ (by decide), Int.emod_lt_of_pos _ (by decide), rfl⟩
      · rintro σ H' ⟨st, x, rfl, h0, h1, rfl⟩
        refine ⟨_, rfl, D, rfl, ⟨_, SqL.of hD2⟩, fun D2 hDn => ?_⟩
        refine lc_same (walk_list (xs := l.map V.int)) (by rw [List.length_map]; omega) hDn ErI (fun _ _ _ _ _ _ h => h) (fun _ _ _ _ _ h => h) (fun i m => m.length ≤ i ∧ ∀ c ∈ m, 0 ≤ c) ⟨Nat.le_refl _, by simp⟩ (fun H4 sm4 => SqL.of (sm4 _ _ hD2)) ?_ ?_
        · rintro i x4 H4 H5 m hi sm4 - ⟨hm1, hm2⟩ ⟨rfl, hx⟩ A B hA hB
          obtain ⟨c, rfl, _⟩ := mem_ints hx
          refine ⟨rfl, ?_⟩
          refine ⟨_, rfl, _, _, rfl, rfl, ⟨by decide, by decide, by decide⟩, _, _, rfl, rfl, _, rfl, ite_dec (fun hc => ?_) (fun hc => ?_)⟩
          · refine ⟨_, rfl, hA _ _ _ (Same.refl _) rfl ⟨by rw [List.length_append]; exact Nat.succ_le_succ hm1, fun z hz => ?_⟩⟩
            rcases List.mem_append.mp hz with hz | hz
            · exact hm2 _ hz
            · rw [List.mem_singleton.mp hz]
              have : (0 : Int) ≤ 10 ^ (18 : Int).toNat := by decide
              omega
          · exact hB _ (Same.refl _) ⟨Nat.le_succ_of_le hm1, hm2⟩
        · rintro H4 us m sm4 hD4 hE4 ⟨hm1, hm2⟩
          have e4 := hE4.ints
          subst e4
          rw [List.length_map] at hm1
          refine ⟨D2, _, rfl, SqL.of hD4, fun r hr4 => ?_⟩
          rw [← List.map_reverse]
          have s5 := same_new (o := .lst (m.reverse.map V.int)) hr4
          refine ⟨_, rfl, (by show 2 ≤ sizeLine; decide), fun t ht => ?_⟩
          have s6 := same_new (o := .lst [.ref r, .int st]) ht
          have stot : Same H H4 := (s1.trans sm).trans sm4
          have ntr : t ≠ r := fun e => by rw [e, upd_same] at ht; cases ht
          refine k t r _ ((stot.trans s5).free ht) (stot.free hr4) ((stot.trans s5).trans s6) ⟨m.reverse, st, upd_same, ?_, fun c hc => hm2 c (List.mem_reverse.mp hc), by rw [List.length_reverse]; omega, h0, h1⟩
          rw [upd_ne ntr.symm, upd_same]
end
end K78

namespace K78
open PySem PySem.Spec PyProof.Rows L2 Hl Vl
/-- those that are in both, in one's sequence; those that are not in the other -/
def inB (a b : List Int) : List Int := a.filter fun x => decide (x ∈ b)
def woB (a b : List Int) : List Int := a.filter fun x => !decide (x ∈ b)
@[simp] theorem mem_inB {x : Int} {a b : List Int} : x ∈ inB a b ↔ x ∈ a ∧ x ∈ b := by simp [inB]
@[simp] theorem mem_woB {x : Int} {a b : List Int} : x ∈ woB a b ↔ x ∈ a ∧ x ∉ b := by simp [woB]
@[simp] theorem mem_sortI {x : Int} {a : List Int} : x ∈ sortI a ↔ x ∈ a := (sortI_perm a).mem_iff
@[simp] theorem len_sortI {a : List Int} : (sortI a).length = a.length := (sortI_perm a).length_eq
theorem sort_eq {a b : List Int} (h : a.Perm b) : sortI a = sortI b := perm_sorted_eq ((sortI_perm a).trans (h.trans (sortI_perm b).symm)) (sortI_sorted a) (sortI_sorted b)
theorem len_inB {a b : List Int} : (inB a b).length ≤ a.length := List.length_filter_le ..
theorem len_woB {a b : List Int} : (woB a b).length ≤ a.length := List.length_filter_le ..
theorem nd_inB {a b : List Int} (h : a.Nodup) : (inB a b).Nodup := h.sublist (List.filter_sublist ..)
theorem nd_woB {a b : List Int} (h : a.Nodup) : (woB a b).Nodup := h.sublist (List.filter_sublist ..)
theorem len_split (a b : List Int) : (inB a b).length + (woB a b).length = a.length := by
  unfold inB woB
  induction a with
  | nil => rfl
  | cons x a ih =>
    rw [List.filter_cons, List.filter_cons]
    by_cases h : x ∈ b
    · simp [h]; omega
    · simp [h]; omega
theorem len_le {a b : List Int} (h : a.Nodup) (s : ∀ x ∈ a, x ∈ b) : a.length ≤ b.length := h.length_le_of_subset s
theorem len_eq {a b : List Int} (h : a.Nodup) (h' : b.Nodup) (s : ∀ x, x ∈ a ↔ x ∈ b) : a.length = b.length :=
  ((List.perm_ext_iff_of_nodup h h').2 s).length_eq
theorem len_symm {a b : List Int} (h : a.Nodup) (h' : b.Nodup) : (inB a b).length = (inB b a).length :=
  len_eq (nd_inB h) (nd_inB h') fun x => by simp [and_comm]
theorem lt_nd {a : List Int} (h : a.Pairwise (· < ·)) : a.Nodup := List.nodup_iff_pairwise_ne.2 (h.imp fun h e => by omega)
theorem lt_le {a : List Int} (h : a.Pairwise (· < ·)) : a.Pairwise (· ≤ ·) := h.imp fun h => by omega
theorem lt_ext {a b : List Int} (ha : a.Pairwise (· < ·)) (hb : b.Pairwise (· < ·)) (h : ∀ x, x ∈ a ↔ x ∈ b) : a = b :=
  perm_sorted_eq ((List.perm_ext_iff_of_nodup (lt_nd ha) (lt_nd hb)).2 h) (lt_le ha) (lt_le hb)
theorem sort_lt {a : List Int} (h : a.Nodup) : (sortI a).Pairwise (· < ·) := by
  have h1 := sortI_sorted a
  have h2 : (sortI a).Nodup := (sortI_perm a).nodup_iff.2 h
  exact h1.imp₂ (fun a b h1 h2 => by omega) (List.nodup_iff_pairwise_ne.1 h2)
/-- a lot of k houses -/
structure Lot (k : Nat) (l : List Int) : Prop where
  len : l.length = k
  lt : l.Pairwise (· < ·)
  lo : ∀ x ∈ l, 0 ≤ x
theorem Lot.nd {k : Nat} {l : List Int} (h : Lot k l) : l.Nodup := lt_nd h.lt
def alo (a b : List Int) (m : Nat) : List Int := (woB a b).take m
def farA (a b : List Int) (m : Nat) : List Int := sortI (alo a b m ++ (inB a b).take (m - (alo a b m).length))
def farB (a b : List Int) (m : Nat) : List Int := sortI (alo b a m ++ (inB a b).drop ((inB a b).length - (m - (alo a b m).length)))
section
variable {k m f : Nat} {a b : List Int}
theorem alo_len (ha : Lot k a) : (alo a b m).length = min m (k - (inB a b).length) := by
  have := len_split a b
  have := ha.len
  unfold alo
  rw [List.length_take]
  congr 1
  omega
theorem alo_len2 (ha : Lot k a) (hb : Lot k b) : (alo b a m).length = (alo a b m).length := by
  rw [alo_len hb, alo_len ha, len_symm ha.nd hb.nd]
theorem alo_mem {x : Int} (h : x ∈ alo a b m) : x ∈ a ∧ x ∉ b := mem_woB.1 (List.mem_of_mem_take h)
theorem farB_law (ha : Lot k a) (hb : Lot k b) : sortI (alo b a m ++ (inB a b).reverse.take (m - (alo b a m).length)) = farB a b m := by
  unfold farB
  refine sort_eq (List.Perm.append_left _ ?_)
  rw [List.take_reverse, alo_len2 ha hb]
  exact List.reverse_perm _
theorem inB_le (ha : Lot k a) : (inB a b).length ≤ k := ha.len ▸ len_inB
theorem farA_nd0 (ha : Lot k a) : (alo a b m ++ (inB a b).take (m - (alo a b m).length)).Nodup := by
  rw [List.nodup_append]
  refine ⟨(nd_woB ha.nd).sublist (List.take_sublist ..), (nd_inB ha.nd).sublist (List.take_sublist ..), fun x hx y hy e => ?_⟩
  subst e
  exact (alo_mem hx).2 (mem_inB.1 (List.mem_of_mem_take hy)).2
theorem farB_nd0 (ha : Lot k a) (hb : Lot k b) {n : Nat} : (alo b a m ++ (inB a b).drop n).Nodup := by
  rw [List.nodup_append]
  refine ⟨(nd_woB hb.nd).sublist (List.take_sublist ..), (nd_inB ha.nd).sublist (List.drop_sublist ..), fun x hx y hy e => ?_⟩
  subst e
  exact (alo_mem hx).2 (mem_inB.1 (List.mem_of_mem_drop hy)).1
theorem farA_lot (ha : Lot k a) (hm : m ≤ k) : Lot m (farA a b m) := by
  have h1 := inB_le (b := b) ha
  refine ⟨?_, sort_lt (farA_nd0 ha), fun x hx => ha.lo x ?_⟩
  · unfold farA
    rw [len_sortI, List.length_append, List.length_take, alo_len ha]
    omega
  · unfold farA at hx
    rw [mem_sortI, List.mem_append] at hx
    rcases hx with h | h
    · exact (alo_mem h).1
    · exact (mem_inB.1 (List.mem_of_mem_take h)).1
theorem farA_sub {x : Int} (hx : x ∈ farA a b m) : x ∈ a := by
  unfold farA at hx
  rw [mem_sortI, List.mem_append] at hx
  rcases hx with h | h
  · exact (alo_mem h).1
  · exact (mem_inB.1 (List.mem_of_mem_take h)).1
theorem farB_sub {x : Int} (hx : x ∈ farB a b m) : x ∈ b := by
  unfold farB at hx
  rw [mem_sortI, List.mem_append] at hx
  rcases hx with h | h
  · exact (alo_mem h).1
  · exact (mem_inB.1 (List.mem_of_mem_drop h)).2
theorem farB_lot (ha : Lot k a) (hb : Lot k b) (hm : m ≤ k) : Lot m (farB a b m) := by
  have h1 := inB_le (b := b) ha
  refine ⟨?_, sort_lt (farB_nd0 ha hb), fun x hx => hb.lo x (farB_sub hx)⟩
  unfold farB
  rw [len_sortI, List.length_append, List.length_drop, alo_len2 ha hb, alo_len ha]
  omega
theorem perm_inB {a a' b b' : List Int} (h1 : a.Perm a') (h2 : ∀ x, x ∈ b ↔ x ∈ b') : (inB a b).length = (inB a' b').length := by
  have e : inB a b = a.filter fun x => decide (x ∈ b') := by
    unfold inB
    refine List.filter_congr fun x _ => ?_
    exact decide_eq_decide.2 (h2 x)
  rw [e]
  exact (h1.filter _).length_eq
theorem cnt_take : ∀ (n : Nat) (C : List Int), C.Nodup → n ≤ C.length → (inB (C.take n) (C.drop (C.length - n))).length = 2 * n - C.length := by
  intro n C hC hn
  by_cases h : 2 * n ≤ C.length
  · have e : inB (C.take n) (C.drop (C.length - n)) = [] := by
      refine List.filter_eq_nil_iff.2 fun x hx => ?_
      rw [decide_eq_true_eq]
      intro hd
      have h1 : x ∈ C.take (C.length - n) := List.take_subset_take_left C (by omega) hx
      have h2 : (C.take (C.length - n) ++ C.drop (C.length - n)).Nodup := by rw [List.take_append_drop]; exact hC
      exact (List.nodup_append.1 h2).2.2 x h1 x hd rfl
    rw [e, List.length_nil]; omega
  · have e0 : n = (C.length - n) + (2 * n - C.length) := by omega
    have e1 : C.take n = C.take (C.length - n) ++ (C.drop (C.length - n)).take (2 * n - C.length) := by
      conv => lhs; rw [e0]
      rw [List.take_add]
    have h2 : (C.take (C.length - n) ++ C.drop (C.length - n)).Nodup := by rw [List.take_append_drop]; exact hC
    have d1 : inB (C.take (C.length - n)) (C.drop (C.length - n)) = [] := by
      refine List.filter_eq_nil_iff.2 fun x hx => ?_
      rw [decide_eq_true_eq]
      intro hd
      exact (List.nodup_append.1 h2).2.2 x hx x hd rfl
    have d2 : inB ((C.drop (C.length - n)).take (2 * n - C.length)) (C.drop (C.length - n)) = (C.drop (C.length - n)).take (2 * n - C.length) := by
      refine List.filter_eq_self.2 fun x hx => ?_
      rw [decide_eq_true_eq]
      exact List.mem_of_mem_take hx
    have e2 : inB (C.take n) (C.drop (C.length - n)) = inB (C.take (C.length - n)) (C.drop (C.length - n)) ++ inB ((C.drop (C.length - n)).take (2 * n - C.length)) (C.drop (C.length - n)) := by
      unfold inB
      rw [e1, List.filter_append]
    rw [e2, d1, d2, List.nil_append, List.length_take, List.length_drop]
    omega
theorem far_cnt (ha : Lot k a) (hb : Lot k b) (hf : f ≤ k) : (inB (farA a b (k - f)) (farB a b (k - f))).length = (inB a b).length - 2 * f := by
  have hc := inB_le (b := b) ha
  unfold farA farB
  rw [perm_inB (sortI_perm _) fun x => mem_sortI]
  have e : inB (alo a b (k - f) ++ (inB a b).take (k - f - (alo a b (k - f)).length)) (alo b a (k - f) ++ (inB a b).drop ((inB a b).length - (k - f - (alo a b (k - f)).length))) = inB ((inB a b).take (k - f - (alo a b (k - f)).length)) ((inB a b).drop ((inB a b).length - (k - f - (alo a b (k - f)).length))) := by
    unfold inB
    rw [List.filter_append]
    have e1 : (alo a b (k - f)).filter (fun x => decide (x ∈ alo b a (k - f) ++ ((a.filter fun x => decide (x ∈ b)).drop ((a.filter fun x => decide (x ∈ b)).length - (k - f - (alo a b (k - f)).length))))) = [] := by
      refine List.filter_eq_nil_iff.2 fun x hx => ?_
      rw [decide_eq_true_eq, List.mem_append]
      rintro (h | h)
      · exact (alo_mem hx).2 (alo_mem h).1
      · exact (alo_mem hx).2 (by have := List.mem_of_mem_drop h; simp at this; exact this.2)
    rw [e1, List.nil_append]
    refine List.filter_congr fun x hx => ?_
    refine decide_eq_decide.2 ?_
    rw [List.mem_append]
    refine ⟨fun h => h.resolve_left fun z => ?_, .inr⟩
    exact (alo_mem z).2 (by have := List.mem_of_mem_take hx; simp at this; exact this.1)
  rw [e, cnt_take _ _ (nd_inB ha.nd) (by rw [alo_len ha]; omega), alo_len ha]
  omega
/-- no lots of so many have fewer in both -/
theorem far_least {I O : List Int} (ha : Lot k a) (hb : Lot k b) (hf : f ≤ k) (hI : I.Nodup) (hO : O.Nodup) (sI : ∀ x ∈ I, x ∈ a) (sO : ∀ x ∈ O, x ∈ b) (lI : I.length = k - f) (lO : O.length = k - f) : (inB a b).length - 2 * f ≤ (inB I O).length := by
  have c1 : (inB a I).length = I.length := len_eq (nd_inB ha.nd) hI fun x => by rw [mem_inB]; exact ⟨fun h => h.2, fun h => ⟨sI x h, h⟩⟩
  have c2 : (inB b O).length = O.length := len_eq (nd_inB hb.nd) hO fun x => by rw [mem_inB]; exact ⟨fun h => h.2, fun h => ⟨sO x h, h⟩⟩
  have s1 := len_split a I
  have s2 := len_split b O
  have := ha.len
  have := hb.len
  have : (inB a b).length ≤ (woB a I ++ (woB b O ++ inB I O)).length := by
    refine len_le (nd_inB ha.nd) fun x hx => ?_
    have hx' := mem_inB.1 hx
    by_cases h1 : x ∈ I
    · by_cases h2 : x ∈ O
      · simp [h1, h2]
      · simp [hx'.2, h2]
    · simp [hx'.1, h1]
  rw [List.length_append, List.length_append] at this
  omega
end
end K78

namespace K78
open PySem PySem.Spec PyProof.Rows L2 Hl Vl
/-! all lots of so many -/
def lotsF (m : Nat) : List (List Int) → List Int → List (List Int)
  | fs, [] => fs
  | fs, h :: t => lotsF m (fs ++ (fs.filter fun o => decide (o.length < m)).map (· ++ [h])) t
def lotsM (lot : List Int) (m : Nat) : List (List Int) := (lotsF m [[]] lot).filter fun o => decide (o.length = m)
theorem mem_lotsF {m : Nat} : ∀ {lot : List Int} {fs : List (List Int)} {l : List Int}, (∀ o ∈ fs, o.length ≤ m) → (l ∈ lotsF m fs lot ↔ ∃ a ∈ fs, ∃ b, b.Sublist lot ∧ l = a ++ b ∧ (a ++ b).length ≤ m)
  | [], fs, l, h => by
    unfold lotsF
    constructor
    · exact fun hl => ⟨l, hl, [], List.Sublist.slnil, by simp, by simpa using h l hl⟩
    · rintro ⟨a, ha, b, hb, rfl, _⟩
      cases hb
      simpa using ha
  | x :: t, fs, l, h => by
    unfold lotsF
    rw [mem_lotsF (by
      intro o ho
      rcases List.mem_append.1 ho with z | z
      · exact h o z
      · obtain ⟨o', h1, rfl⟩ := List.mem_map.1 z
        have := (List.mem_filter.1 h1).2
        rw [decide_eq_true_eq] at this
        simp; omega)]
    constructor
    · rintro ⟨a, ha, b, hb, rfl, hl⟩
      rcases List.mem_append.1 ha with z | z
      · exact ⟨a, z, b, hb.cons _, rfl, hl⟩
      · obtain ⟨o', h1, rfl⟩ := List.mem_map.1 z
        refine ⟨o', (List.mem_filter.1 h1).1, x :: b, hb.cons_cons _, by simp, by simpa using hl⟩
    · rintro ⟨a, ha, b, hb, rfl, hl⟩
      cases hb with
      | cons _ hb => exact ⟨a, List.mem_append_left _ ha, b, hb, rfl, hl⟩
      | cons_cons _ hb =>
        rename_i b'
        refine ⟨a ++ [x], List.mem_append_right _ (List.mem_map.2 ⟨a, List.mem_filter.2 ⟨ha, ?_⟩, rfl⟩), b', hb, by simp, by simpa using hl⟩
        rw [decide_eq_true_eq]
        simp at hl; omega
theorem mem_lotsM {m : Nat} {lot l : List Int} : l ∈ lotsM lot m ↔ l.Sublist lot ∧ l.length = m := by
  unfold lotsM
  rw [List.mem_filter, decide_eq_true_eq, mem_lotsF (by simp)]
  constructor
  · rintro ⟨⟨a, ha, b, hb, rfl, _⟩, h⟩
    simp at ha
    subst ha
    exact ⟨by simpa using hb, h⟩
  · rintro ⟨h1, h2⟩
    exact ⟨⟨[], by simp, l, h1, by simp, by simp; omega⟩, h2⟩
theorem lotsF_len {m : Nat} : ∀ {lot : List Int} {fs : List (List Int)}, (lotsF m fs lot).length ≤ fs.length * 2 ^ lot.length
  | [], fs => by simp [lotsF]
  | x :: t, fs => by
    unfold lotsF
    refine Nat.le_trans lotsF_len ?_
    rw [List.length_append, List.length_map, List.length_cons, Nat.pow_succ, Nat.mul_comm (2 ^ t.length) 2, ← Nat.mul_assoc]
    refine Nat.mul_le_mul_right _ ?_
    have := List.length_filter_le (fun o : List Int => decide (o.length < m)) fs
    omega
theorem lotsM_len {m : Nat} {lot : List Int} : (lotsM lot m).length ≤ 2 ^ lot.length := by
  unfold lotsM
  refine Nat.le_trans (List.length_filter_le ..) ?_
  simpa using @lotsF_len m lot [[]]
theorem sub_of_lt {a b : List Int} (ha : a.Pairwise (· < ·)) (hb : b.Pairwise (· < ·)) (h : ∀ x ∈ a, x ∈ b) : a.Sublist b := by
  have e : a = b.filter fun x => decide (x ∈ a) := by
    refine lt_ext ha (hb.sublist (List.filter_sublist ..)) fun x => ?_
    simp
    exact fun hx => h x hx
  rw [e]
  exact List.filter_sublist ..
/-! pairs of maps -/
def rowF (p : Nat) : Nat → Nat → List (Nat × Nat)
  | _, 0 => []
  | q, c + 1 => (p, q) :: rowF p (q + 1) c
def rowP (n d p : Nat) : List (Nat × Nat) := rowF p p (min n (p + d + 1) - p)
def prsF (n d : Nat) : Nat → Nat → List (Nat × Nat)
  | _, 0 => []
  | p, c + 1 => rowP n d p ++ prsF n d (p + 1) c
def prs (n d : Nat) : List (Nat × Nat) := prsF n d 0 n
theorem mem_rowF {p a b : Nat} : ∀ {c q : Nat}, (a, b) ∈ rowF p q c ↔ a = p ∧ q ≤ b ∧ b < q + c
  | 0, q => by simp [rowF]
  | c + 1, q => by
    simp only [rowF, List.mem_cons, Prod.mk.injEq, mem_rowF (c := c)]
    omega
theorem mem_prsF {n d a b : Nat} : ∀ {c p : Nat}, p + c ≤ n → ((a, b) ∈ prsF n d p c ↔ p ≤ a ∧ a < p + c ∧ a ≤ b ∧ b < n ∧ b ≤ a + d)
  | 0, p, _ => by simp [prsF]; omega
  | c + 1, p, h => by
    simp only [prsF, List.mem_append, rowP, mem_rowF, mem_prsF (n := n) (c := c) (p := p + 1) (by omega : p + 1 + c ≤ n)]
    omega
theorem mem_prs {n d a b : Nat} : (a, b) ∈ prs n d ↔ a ≤ b ∧ b < n ∧ b ≤ a + d := by
  unfold prs
  rw [mem_prsF (by omega)]
  omega
theorem rowF_len {p : Nat} : ∀ {c q : Nat}, (rowF p q c).length = c
  | 0, q => rfl
  | c + 1, q => by simp [rowF, rowF_len (c := c)]
theorem prsF_len {n d : Nat} : ∀ {c p : Nat}, (prsF n d p c).length ≤ c * n
  | 0, p => by simp [prsF]
  | c + 1, p => by
    have := @prsF_len n d c (p + 1)
    simp only [prsF, rowP, List.length_append, rowF_len, Nat.succ_mul]
    omega
/-! the greatest of some -/
def mxL (l : List Nat) : Nat := l.foldl max 0
theorem foldl_max_le {v : Nat} : ∀ {l : List Nat} {a : Nat}, l.foldl max a ≤ v ↔ a ≤ v ∧ ∀ x ∈ l, x ≤ v
  | [], a => by simp
  | x :: l, a => by
    rw [List.foldl_cons, foldl_max_le, List.forall_mem_cons]
    constructor
    · rintro ⟨h1, h2⟩; exact ⟨by omega, by omega, h2⟩
    · rintro ⟨h1, h2, h3⟩; exact ⟨by omega, h3⟩
theorem mxL_le {l : List Nat} {v : Nat} : mxL l ≤ v ↔ ∀ x ∈ l, x ≤ v := by
  unfold mxL
  rw [foldl_max_le]
  exact ⟨fun h => h.2, fun h => ⟨by omega, h⟩⟩
theorem eq_of_le {a b : Nat} (h : ∀ v, a ≤ v ↔ b ≤ v) : a = b := Nat.le_antisymm ((h b).2 (Nat.le_refl _)) ((h a).1 (Nat.le_refl _))
/-! courses -/
def cAt (c : List (List Int)) (p : Nat) : List Int := c.getD p []
structure Crs (k : Nat) (c : List (List Int)) : Prop where
  len : 1 ≤ c.length ∧ c.length ≤ 300
  lot : ∀ l ∈ c, Lot k l
  hk : 1 ≤ k ∧ k ≤ 24
  hi : ∀ l ∈ c, ∀ x ∈ l, x < 60
def lk (c : List (List Int)) (p q : Nat) : Nat := (woB (cAt c q) (cAt c p)).length
def gapOf (c : List (List Int)) (d : Nat) : Nat := mxL ((prs c.length d).map fun x => lk c x.1 x.2)
def newOf (c : List (List Int)) (d : Nat) : Nat := mxL ((List.range (c.length - d)).map fun p => lk c p (p + d))
theorem gapOf_le {c : List (List Int)} {d v : Nat} : gapOf c d ≤ v ↔ ∀ p q, p ≤ q → q < c.length → q ≤ p + d → lk c p q ≤ v := by
  unfold gapOf
  rw [mxL_le, List.forall_mem_map]
  constructor
  · exact fun h p q h1 h2 h3 => h (p, q) (mem_prs.2 ⟨h1, h2, h3⟩)
  · rintro h ⟨p, q⟩ hx
    have := mem_prs.1 hx
    exact h p q this.1 this.2.1 this.2.2
theorem newOf_le {c : List (List Int)} {d v : Nat} : newOf c d ≤ v ↔ ∀ p, p + d < c.length → lk c p (p + d) ≤ v := by
  unfold newOf
  rw [mxL_le, List.forall_mem_map]
  constructor
  · exact fun h p h1 => h p (List.mem_range.2 (by omega))
  · intro h p hp
    exact h p (by have := List.mem_range.1 hp; omega)
theorem lk_self {c : List (List Int)} {p : Nat} : lk c p p = 0 := by
  unfold lk woB
  rw [List.length_eq_zero_iff, List.filter_eq_nil_iff]
  intro x hx
  simp [hx]
theorem gap_zero {c : List (List Int)} : gapOf c 0 = 0 := Nat.le_zero.1 (gapOf_le.2 fun p q h1 h2 h3 => by
  have : p = q := by omega
  subst this
  rw [lk_self]; omega)
theorem gap_succ {c : List (List Int)} {d : Nat} : gapOf c (d + 1) = max (gapOf c d) (newOf c (d + 1)) := eq_of_le fun v => by
  rw [Nat.max_le, gapOf_le, gapOf_le, newOf_le]
  constructor
  · exact fun h => ⟨fun p q h1 h2 h3 => h p q h1 h2 (by omega), fun p h1 => h p _ (by omega) h1 (by omega)⟩
  · rintro ⟨h1, h2⟩ p q a1 a2 a3
    by_cases e : q = p + (d + 1)
    · subst e; exact h2 p a2
    · exact h1 p q a1 a2 (by omega)
theorem gap_all {c : List (List Int)} {d : Nat} : gapOf c (min d (c.length - 1)) = gapOf c d := eq_of_le fun v => by
  rw [gapOf_le, gapOf_le]
  exact ⟨fun h p q h1 h2 h3 => h p q h1 h2 (by omega), fun h p q h1 h2 h3 => h p q h1 h2 (by omega)⟩
theorem gap_att {c : List (List Int)} {d : Nat} (h0 : 0 < c.length) : ∃ p q, p ≤ q ∧ q < c.length ∧ q ≤ p + d ∧ lk c p q = gapOf c d := by
  by_cases hg : gapOf c d = 0
  · exact ⟨0, 0, by omega, h0, by omega, by rw [lk_self, hg]⟩
  · refine Classical.byContradiction fun hn => ?_
    have : gapOf c d ≤ gapOf c d - 1 := gapOf_le.2 fun p q h1 h2 h3 => by
      have a := gapOf_le.1 (Nat.le_refl (gapOf c d)) p q h1 h2 h3
      have b : lk c p q ≠ gapOf c d := fun e => hn ⟨p, q, h1, h2, h3, e⟩
      omega
    omega
theorem Crs.at {k : Nat} {c : List (List Int)} (h : Crs k c) {p : Nat} (hp : p < c.length) : Lot k (cAt c p) := by
  unfold cAt
  rw [List.getD_eq_getElem?_getD, List.getElem?_eq_getElem hp]
  exact h.lot _ (List.getElem_mem hp)
theorem Crs.at_hi {k : Nat} {c : List (List Int)} (h : Crs k c) {p : Nat} (hp : p < c.length) : ∀ x ∈ cAt c p, x < 60 := by
  unfold cAt
  rw [List.getD_eq_getElem?_getD, List.getElem?_eq_getElem hp]
  exact h.hi _ (List.getElem_mem hp)
theorem lk_eq {k : Nat} {c : List (List Int)} (h : Crs k c) {p q : Nat} (hp : p < c.length) (hq : q < c.length) : lk c p q + (inB (cAt c p) (cAt c q)).length = k := by
  have h1 := h.at hp
  have h2 := h.at hq
  have := len_split (cAt c q) (cAt c p)
  rw [len_symm h1.nd h2.nd]
  have := h2.len
  unfold lk
  omega
/-- the two sides of a pair, and whether they are thin -/
def thP (c : List (List Int)) (m cm : Nat) (x : Nat × Nat) : Bool := decide ((inB (farA (cAt c x.1) (cAt c x.2) m) (farB (cAt c x.1) (cAt c x.2) m)).length ≤ cm)
def thR (c : List (List Int)) (m d cm : Nat) : Option (Nat × Nat) := (prs c.length d).find? (thP c m cm)
theorem thP_iff {k f cm : Nat} {c : List (List Int)} (h : Crs k c) (hf : f ≤ k) {p q : Nat} (hp : p < c.length) (hq : q < c.length) : thP c (k - f) cm (p, q) = true ↔ k ≤ 2 * f + lk c p q + cm := by
  have h1 := h.at hp
  have h2 := h.at hq
  have := lk_eq h hp hq
  unfold thP
  rw [decide_eq_true_eq, far_cnt h1 h2 hf]
  omega
theorem thR_none {k f d cm : Nat} {c : List (List Int)} (h : Crs k c) (hf : f ≤ k) : thR c (k - f) d cm = none ↔ 2 * f + gapOf c d + cm < k := by
  unfold thR
  rw [List.find?_eq_none]
  constructor
  · intro hn
    obtain ⟨p, q, a1, a2, a3, e⟩ := gap_att (c := c) (d := d) h.len.1
    have := hn (p, q) (mem_prs.2 ⟨a1, a2, a3⟩)
    rw [thP_iff h hf (by omega) a2] at this
    omega
  · rintro hl ⟨p, q⟩ hx
    have a := mem_prs.1 hx
    rw [thP_iff h hf (by omega) a.2.1]
    have := gapOf_le.1 (Nat.le_refl (gapOf c d)) p q a.1 a.2.1 a.2.2
    omega
theorem thR_some {m d cm : Nat} {c : List (List Int)} {x : Nat × Nat} (h : thR c m d cm = some x) : x.1 ≤ x.2 ∧ x.2 < c.length ∧ x.2 ≤ x.1 + d ∧ thP c m cm x = true := by
  have h1 := List.mem_of_find?_eq_some h
  have h2 := List.find?_some h
  have := mem_prs.1 (show (x.1, x.2) ∈ prs c.length d from h1)
  exact ⟨this.1, this.2.1, this.2.2, h2⟩
/-- whether some lots of a pair have as few in common -/
def allP (c : List (List Int)) (m cm : Nat) (x : Nat × Nat) : Bool := (lotsM (cAt c x.1) m).any fun I => (lotsM (cAt c x.2) m).any fun O => decide ((inB I O).length ≤ cm)
theorem allP_eq {k f cm : Nat} {c : List (List Int)} (h : Crs k c) (hf : f ≤ k) {p q : Nat} (hp : p < c.length) (hq : q < c.length) : allP c (k - f) cm (p, q) = thP c (k - f) cm (p, q) := by
  have h1 := h.at hp
  have h2 := h.at hq
  rw [Bool.eq_iff_iff]
  unfold allP
  simp only [List.any_eq_true, decide_eq_true_eq]
  constructor
  · rintro ⟨I, hI, O, hO, hl⟩
    have a := mem_lotsM.1 hI
    have b := mem_lotsM.1 hO
    unfold thP
    rw [decide_eq_true_eq, far_cnt h1 h2 hf]
    refine Nat.le_trans (far_least h1 h2 hf (h1.nd.sublist a.1) (h2.nd.sublist b.1) (fun x hx => a.1.subset hx) (fun x hx => b.1.subset hx) a.2 b.2) hl
  · intro ht
    have A := farA_lot (b := cAt c q) h1 (Nat.sub_le k f)
    have B := farB_lot h1 h2 (Nat.sub_le k f)
    refine ⟨_, mem_lotsM.2 ⟨sub_of_lt A.lt h1.lt fun x hx => farA_sub hx, A.len⟩, _, mem_lotsM.2 ⟨sub_of_lt B.lt h2.lt fun x hx => farB_sub hx, B.len⟩, of_decide_eq_true ht⟩
end K78

namespace K78
open PySem PySem.Spec PyProof.Rows L2 Hl Vl
/-- plain values -/
inductive Pl : D → Prop
  | non : Pl .non
  | bl (b : Bool) : Pl (.bl b)
  | int (i : Int) : Pl (.int i)
  | str (z : Str) : Pl (.str z)
  | tup (l : List D) : Pl (.tup l)
  | lst (l : List D) : Pl (.lst l)
def isI : D → Bool
  | .int _ => true
  | _ => false
def isNum (m : Int) : D → Bool
  | .int i => decide (0 ≤ i) && decide (i ≤ m)
  | _ => false
def isN0 : D → Bool
  | .int i => decide (0 ≤ i)
  | _ => false
theorem is_integer_iff {v : D} {Q : D → Prop} (h : Pl v) : W_is_integer [v] Q ↔ Q (.bl (isI v)) := by
  cases h <;> simp [W_is_integer, isI]
theorem is_number_iff {v : D} {m : Int} {Q : D → Prop} (h : Pl v) : W_is_number [v, .int m] Q ↔ Q (.bl (isNum m v)) := by
  cases h <;> simp [W_is_number, is_integer_iff, Pl.non, Pl.bl, Pl.int, Pl.str, Pl.tup, Pl.lst, isI, isNum]
  rename_i i
  by_cases h0 : 0 ≤ i
  · have : ¬ i < 0 := by omega
    simp [h0, this]
  · have : i < 0 := by omega
    simp [h0, this]
theorem is_number0_iff {v : D} {Q : D → Prop} (h : Pl v) : W_is_number [v, .non] Q ↔ Q (.bl (isN0 v)) := by
  cases h <;> simp [W_is_number, is_integer_iff, Pl.non, Pl.bl, Pl.int, Pl.str, Pl.tup, Pl.lst, isI, isN0]
  rename_i i
  by_cases h0 : 0 ≤ i
  · have : ¬ i < 0 := by omega
    simp [h0, this]
  · have : i < 0 := by omega
    simp [h0, this]
theorem in_both_ok {a b : List Int} {Q : D → Prop} (hz : a.length ≤ 10000) (h : Q (tI (inB a b))) : W_in_both [tI a, tI b] Q := by
  simp [W_in_both]
  refine lc_v D.int (fun x => decide (x ∈ b)) D.int a [] (fun x hx A B h1 h2 => ?_) rfl (by simp; exact le_sz (by omega)) ?_
  · simp at h1 h2 ⊢
    exact ⟨h1, h2⟩
  · simpa [inB] using h
theorem only_first_ok {a b : List Int} {Q : D → Prop} (hz : a.length ≤ 10000) (h : Q (tI (woB a b))) : W_only_first [tI a, tI b] Q := by
  simp [W_only_first]
  refine lc_v D.int (fun x => !decide (x ∈ b)) D.int a [] (fun x hx A B h1 h2 => ?_) rfl (by simp; exact le_sz (by omega)) ?_
  · simp at h1 h2 ⊢
    exact ⟨h1, h2⟩
  · simpa [woB] using h
theorem law_lacks_ok {a b : List Int} {Q : D → Prop} (hz : b.length ≤ 10000) (h : Q (.int (woB b a).length)) : W__law_lacks [tI a, tI b] Q := by
  simp [W__law_lacks]
  refine lc_v D.int (fun x => !decide (x ∈ a)) D.int b [] (fun x hx A B h1 h2 => ?_) rfl (by simp; exact le_sz (by omega)) ?_
  · simp at h1 h2 ⊢
    exact ⟨h1, h2⟩
  · simpa [woB] using h
theorem far_lots_ok {k m : Nat} {a b : List Int} {Q : D → Prop} (ha : Lot k a) (hb : Lot k b) (hm : m ≤ k) (hk : k ≤ 24) (h : Q (.tup [tI (farA a b m), tI (farB a b m)])) : W_far_lots [tI a, tI b, .int m] Q := by
  have la := ha.len
  have lb := hb.len
  have hc := inB_le (b := b) ha
  have hal := alo_len (m := m) (b := b) ha
  have hbl := alo_len2 (m := m) ha hb
  simp [W_far_lots]
  refine in_both_ok (by omega) (only_first_ok (by omega) ?_)
  simp
  refine only_first_ok (by omega) ?_
  simp [cut_take, ← List.map_take]
  have e0 : min m (woB a b).length = (alo a b m).length := by unfold alo; rw [List.length_take]
  have e00 : min m (woB b a).length = (alo b a m).length := by unfold alo; rw [List.length_take]
  rw [e0, e00]
  generalize hn : (alo a b m).length = n at *
  have e1 : ((m : Int) - (n : Nat)) = ((m - n : Nat) : Int) := by omega
  have e2 : (((inB a b).length : Int) - ((m - n : Nat) : Int)) = (((inB a b).length - (m - n) : Nat) : Int) := by omega
  rw [e1, e2, cut_take, cut_drop, ← List.map_take, ← List.map_drop, ← List.map_append, ← List.map_append, intsO_ints, intsO_ints, oK_some, oK_some]
  rw [List.length_map, List.length_map, List.length_take, List.length_drop]
  refine ⟨le_sz (by omega), le_sz (by omega), le_sz (by omega), ?_⟩
  unfold farA farB at h
  rw [hn] at h
  exact h
end K78

namespace K78
open PySem PySem.Spec PyProof.Rows L2 Hl Vl
abbrev cD (c : List (List Int)) : D := .tup (c.map tI)
def pqD (x : Nat × Nat) : D := .tup [.int (x.1 : Nat), .int (x.2 : Nat)]
theorem at_c {c : List (List Int)} {p : Nat} (h : p < c.length) : atI (c.map tI) (p : Int) = some (tI (cAt c p)) := by
  refine atI_nat ?_
  rw [List.getElem?_map, List.getElem?_eq_getElem h]
  unfold cAt
  rw [List.getD_eq_getElem?_getD, List.getElem?_eq_getElem h]
  rfl
theorem rowF_map {p : Nat} : ∀ {c q : Nat}, (rowF p q c).map pqD = (List.range c).map fun i => D.tup [.int (p : Nat), .int ((q : Int) + (i : Nat))]
  | 0, q => rfl
  | c + 1, q => by
    rw [rowF, List.map_cons, rowF_map, List.range_succ_eq_map, List.map_cons, List.map_map]
    congr 1
    refine List.map_congr_left fun i _ => ?_
    simp
    omega
theorem pairs_loop {D' : EV} {c : List (List Int)} {d : Nat} (hc : c.length ≤ 300) : ∀ (cnt : Nat) {p : Nat} {acc : List D} {c3 : Cell}, p + cnt = c.length → acc.length + cnt * 300 ≤ 100000 →
    (∀ d3, D'.nx [.val (cD c), .val (.int d), .own (acc ++ (prsF c.length d p cnt).map pqD), d3, .no]) →
    forV (gV 3) W_pairs_within_L1 (rgD p cnt) D' [.val (cD c), .val (.int d), .own acc, c3, .no]
  | 0, p, acc, c3, _, _, h => by simpa [rgD_zero, prsF] using h _
  | cnt + 1, p, acc, c3, h1, h2, h => by
    rw [rgD_succ, for_cons]
    generalize hF : forV (gV 3) W_pairs_within_L1 (rgD ((p : Int) + 1) cnt) D' = F
    have en : (min (c.length : Int) ((p : Int) + d + 1) - p).toNat = min c.length (p + d + 1) - p := by omega
    simp [W_pairs_within_L1, en]
    refine ⟨by omega, ?_⟩
    rw [rgD_map]
    refine lc_m (fun i : Nat => D.int ((p : Int) + (i : Nat))) (fun i => D.tup [.int (p : Nat), .int ((p : Int) + (i : Nat))]) _ (fun i hi A B k1 => ?_) rfl (by rw [sizeLine_eq]; simp; omega) ?_
    · simp at k1 ⊢
      exact ⟨le_sz (by omega), k1⟩
    rw [← rowF_map]
    have hl : (rowF p p (min c.length (p + d + 1) - p)).length ≤ 300 := by rw [rowF_len]; omega
    simp [rowF_len]
    refine ⟨le_sz (by omega), ?_⟩
    rw [← hF]
    refine pairs_loop hc cnt (p := p + 1) (by omega) (by simp [rowF_len]; omega) fun d3 => ?_
    simpa [prsF, rowP] using h d3
theorem prs_len {n d : Nat} : (prs n d).length ≤ n * n := prsF_len
theorem pairs_within_ok {c : List (List Int)} {d : Nat} {Q : D → Prop} (hc : c.length ≤ 300) (h : Q (.tup ((prs c.length d).map pqD))) : W_pairs_within [cD c, .int d] Q := by
  simp [W_pairs_within, -forV]
  refine ⟨by omega, ?_⟩
  refine pairs_loop hc c.length (p := 0) (by omega) (by simp; omega) fun d3 => ?_
  simp
  exact h
def thinFs (P Q I O : D) : List (Str × D) := [("p", P), ("q", Q), ("ins", I), ("others", O)]
abbrev thinO (P Q I O : D) : D := .obj "Thin" (thinFs P Q I O)
section
variable {P Q I O : D}
@[simp] theorem th_p : (thinFs P Q I O).lookup (Str.ofString "p") = some P := by rfl
@[simp] theorem th_q : (thinFs P Q I O).lookup (Str.ofString "q") = some Q := by rfl
@[simp] theorem th_i : (thinFs P Q I O).lookup (Str.ofString "ins") = some I := by rfl
@[simp] theorem th_o : (thinFs P Q I O).lookup (Str.ofString "others") = some O := by rfl
theorem thin_make {R : List (Str × D) → Prop} (h : R (thinFs P Q I O)) : W_Thin_init [P, Q, I, O] R := by
  simp only [W_Thin_init, wInit]
  refine ⟨rfl, fun a => ?_⟩
  simp [-putD]
  exact ⟨(by decide : 1 < 1000), (by decide : 2 < 1000), (by decide : 3 < 1000), h⟩
end
/-- the thin pair found -/
def fA (c : List (List Int)) (m : Nat) (x : Nat × Nat) : List Int := farA (cAt c x.1) (cAt c x.2) m
def fB (c : List (List Int)) (m : Nat) (x : Nat × Nat) : List Int := farB (cAt c x.1) (cAt c x.2) m
def thD (c : List (List Int)) (m : Nat) : Option (Nat × Nat) → D
  | none => .non
  | some x => thinO (.int x.1) (.int x.2) (tI (fA c m x)) (tI (fB c m x))
theorem thin_loop {k f d cm : Nat} {c : List (List Int)} {Q : D → Prop} (hC : Crs k c) (hf : f ≤ k) : ∀ (l : List (Nat × Nat)) {c4 c5 c6 c7 : Cell}, (∀ x ∈ l, x.1 < c.length ∧ x.2 < c.length) →
    Q (thD c (k - f) (l.find? (thP c (k - f) cm))) →
    forV (gTupV 2 (gConsV (gV 4) (gConsV (gV 5) gNilV))) W_thin_of_L1 (l.map pqD) { nx := wRet (wC .non) { nx := fun x => Q D.non, rt := Q }, rt := Q } [.val (cD c), .val (.int f), .val (.int d), .val (.int cm), c4, c5, c6, c7]
  | [], _, _, _, _, _, h => by simpa [thD] using h
  | x :: l, c4, c5, c6, c7, hl, h => by
    obtain ⟨h1, h2⟩ := hl x (List.mem_cons_self ..)
    have A := hC.at h1
    have B := hC.at h2
    have hk := hC.hk
    have em : ((k : Int) - f) = ((k - f : Nat) : Int) := by omega
    rw [List.map_cons, for_cons]
    generalize hF : forV (gTupV 2 (gConsV (gV 4) (gConsV (gV 5) gNilV))) W_thin_of_L1 (l.map pqD) _ = F
    simp [W_thin_of_L1, pqD, at_c h1, at_c h2, A.len, em]
    refine far_lots_ok A B (by omega) hk.2 ?_
    simp
    refine in_both_ok (by have := (farA_lot (b := cAt c x.2) A (Nat.sub_le k f)).len; omega) ?_
    simp
    rw [List.find?_cons] at h
    by_cases ht : thP c (k - f) cm x = true
    · rw [ht] at h
      have ht' := of_decide_eq_true ht
      refine ⟨fun _ => thin_make h, fun z => absurd ht' (by omega)⟩
    · have ht' : ¬ (inB (farA (cAt c x.1) (cAt c x.2) (k - f)) (farB (cAt c x.1) (cAt c x.2) (k - f))).length ≤ cm := fun z => ht (decide_eq_true z)
      have ht2 : thP c (k - f) cm x = false := by simpa using ht
      rw [ht2] at h
      refine ⟨fun z => absurd z ht', fun _ => ?_⟩
      rw [← hF]
      exact thin_loop hC hf l (fun y hy => hl y (List.mem_cons_of_mem _ hy)) h
theorem prs_lt {n d : Nat} : ∀ x ∈ prs n d, x.1 < n ∧ x.2 < n := fun x hx => by
  have := mem_prs.1 (show (x.1, x.2) ∈ prs n d from hx)
  omega
theorem thin_of_ok {k f d cm : Nat} {c : List (List Int)} {Q : D → Prop} (hC : Crs k c) (hf : f ≤ k) (h : Q (thD c (k - f) (thR c (k - f) d cm))) : W_thin_of [cD c, .int f, .int d, .int cm] Q := by
  simp [W_thin_of, -forV]
  refine pairs_within_ok hC.len.2 ?_
  simp [-forV]
  exact thin_loop hC hf _ prs_lt h
end K78

namespace K78
open PySem PySem.Spec PyProof.Rows L2 Hl Vl
theorem like_int {n : Nat} {i : Int} {Q : D → Prop} (h : Q (.bl true)) : W__law_like_at (n + 1) [.int i, .int i] Q := by
  simp [W__law_like_at, W__law_like_of]
  exact h
theorem like_bl {n : Nat} {b : Bool} {Q : D → Prop} (h : Q (.bl true)) : W__law_like_at (n + 1) [.bl b, .bl b] Q := by
  cases b <;> simp [W__law_like_at, W__law_like_of] <;> exact h
theorem like_tup {n : Nat} {l : List D} {Q : D → Prop} (hl : ∀ d ∈ l, ∀ Q : D → Prop, Q (.bl true) → W__law_like_at n [d, d] Q) (hz : l.length ≤ 100000) (h : Q (.bl true)) : W__law_like_at (n + 1) [.tup l, .tup l] Q := by
  simp [W__law_like_at, W__law_like_of]
  refine ⟨by omega, ?_⟩
  rw [rgD_map]
  refine lc_m (fun i : Nat => D.int ((0 : Int) + (i : Nat))) (fun i => D.bl true) _ (fun i hi A B k1 => ?_) rfl (by rw [sizeLine_eq]; simp; omega) ?_
  · obtain ⟨x, e⟩ := opt_get (List.mem_range.1 hi)
    simp at k1
    simp [atI_nat e]
    exact hl x (List.mem_of_getElem? e) _ k1
  have ea : (((List.range l.length).map fun _ => true).all id) = true := by simp
  simp only [wCB, gAll, blsO_mapb, oK_some]
  simpa [ea] using h
theorem like_tI {n : Nat} {l : List Int} {Q : D → Prop} (hz : l.length ≤ 100000) (h : Q (.bl true)) : W__law_like_at (n + 2) [tI l, tI l] Q := by
  refine like_tup (fun d hd Q hQ => ?_) (by simpa using hz) h
  obtain ⟨i, _, rfl⟩ := List.mem_map.1 hd
  exact like_int hQ
end K78

namespace K78
open PySem PySem.Spec PyProof.Rows L2 Hl Vl
theorem pick_D {l : List D} {Q : D → Prop} (h0 : 0 < l.length) (hz : l.length ≤ 100000) (h : ∀ x ∈ l, Q x) : W__law_pick [.hnd, .lst l] Q := by
  simp [W__law_pick]
  refine ⟨h0, by omega, fun r r0 r1 => ?_⟩
  obtain ⟨x, hx, e⟩ := atI_pickD r0 r1
  rw [e]
  exact h x hx
theorem pick_T {l : List D} {Q : D → Prop} (h0 : 0 < l.length) (hz : l.length ≤ 100000) (h : ∀ x ∈ l, Q x) : W__law_pick [.hnd, .tup l] Q := by
  simp [W__law_pick]
  refine ⟨h0, by omega, fun r r0 r1 => ?_⟩
  obtain ⟨x, hx, e⟩ := atI_pickD r0 r1
  rw [e]
  exact h x hx
theorem mix_loop {D' : EV} {c1 : Cell} : ∀ (n : Nat) {lo : Int} {lf fo : List Int} {c4 : Cell}, lf.length = n → lf.length + fo.length ≤ 10000 →
    (∀ (lf' : List D) (fo' : List Int) (d4 : Cell), fo'.Perm (lf ++ fo) → D'.nx [.val .hnd, c1, .own lf', .own (fo'.map D.int), d4]) →
    forV (gV 4) W__law_mixed_L1 (rgD lo n) D' [.val .hnd, c1, .own (lf.map D.int), .own (fo.map D.int), c4]
  | 0, lo, lf, fo, c5, h1, _, h => by
    have : lf = [] := List.length_eq_zero_iff.1 h1
    subst this
    exact h _ _ _ (by simp)
  | n + 1, lo, lf, fo, c5, h1, h2, h => by
    rw [rgD_succ, for_cons]
    generalize hF : forV (gV 4) W__law_mixed_L1 (rgD (lo + 1) n) D' = F
    have z : fo.length < sizeLine := lt_sz (by omega)
    simp [W__law_mixed_L1]
    refine ⟨by omega, by omega, fun r r0 r1 => ⟨by omega, ?_⟩⟩
    obtain ⟨i, rfl⟩ : ∃ i : Nat, r = i := ⟨r.toNat, by omega⟩
    have hi : i < lf.length := by omega
    have es : seqIndex? (i : Int) lf.length = some i := by
      have : ¬ ((i : Int) < 0) := by omega
      unfold seqIndex?
      simp [hi, this]
    have ee : (lf.map D.int).eraseIdx i = (lf.eraseIdx i).map D.int := eraseIdx_mapI ..
    have hp := perm_erase hi
    have ele : (lf.eraseIdx i).length = lf.length - 1 := List.length_eraseIdx_of_lt hi
    simp [es, hi, z, ee]
    rw [← hF]
    have e2 : fo.map D.int ++ [D.int lf[i]] = (fo ++ [lf[i]]).map D.int := by simp
    rw [e2]
    have hperm : (lf.eraseIdx i ++ (fo ++ [lf[i]])).Perm (lf ++ fo) := by
      have h1 : (lf.eraseIdx i ++ (fo ++ [lf[i]])).Perm (lf.eraseIdx i ++ ([lf[i]] ++ fo)) := List.Perm.append_left _ List.perm_append_comm
      refine h1.trans ?_
      rw [← List.append_assoc]
      refine List.Perm.append_right _ (List.perm_append_comm.trans hp)
    refine mix_loop n (by omega) (by simp; omega) fun lf' fo' d5 g1 => h lf' fo' d5 (g1.trans hperm)
theorem mixed_ok {pool : List Int} {X : D} {Q : D → Prop} (hX : X = tI pool ∨ X = lI pool) (hz : pool.length ≤ 1000) (h : ∀ l : List Int, l.Perm pool → Q (tI l)) : W__law_mixed [.hnd, X] Q := by
  rcases hX with rfl | rfl
  all_goals
    simp [W__law_mixed, -forV]
    refine ⟨by omega, ?_⟩
    refine mix_loop pool.length (lf := pool) (fo := []) rfl (by simp; omega) fun lf' fo' d5 g1 => ?_
    simp at g1 ⊢
    exact h fo' g1
/-- lots of a pool -/
structure LotIn (n : Nat) (pool l : List Int) : Prop where
  len : l.length = n
  lt : l.Pairwise (· < ·)
  sub : ∀ x ∈ l, x ∈ pool
theorem some_ok {pool : List Int} {X : D} {m : Nat} {Q : D → Prop} (hX : X = tI pool ∨ X = lI pool) (hn : pool.Nodup) (hm : m ≤ pool.length) (hz : pool.length ≤ 1000)
    (h : ∀ l : List Int, LotIn m pool l → Q (tI l)) : W__law_some [.hnd, X, .int m] Q := by
  simp [W__law_some]
  refine mixed_ok hX hz fun l hl => ?_
  have hln := hl.nodup_iff.2 hn
  simp [cut_take, ← List.map_take]
  refine h _ ⟨?_, sort_lt (hln.sublist (List.take_sublist ..)), fun x hx => hl.mem_iff.1 (List.mem_of_mem_take (mem_sortI.1 hx))⟩
  rw [len_sortI, List.length_take, hl.length_eq]
  omega
theorem others_eq {n : Nat} {lot : List Int} : (rl n).filter (fun x => !decide (x ∈ lot)) = woB (rl n) lot := rfl
theorem nd_app {a b : List Int} (ha : a.Nodup) (hb : b.Nodup) (h : ∀ x ∈ a, x ∉ b) : (a ++ b).Nodup := List.nodup_append.2 ⟨ha, hb, fun x hx y hy e => h x hx (e ▸ hy)⟩
theorem LotIn.lot {k hs : Nat} {l : List Int} (h : LotIn k (rl hs) l) : Lot k l := ⟨h.len, h.lt, fun x hx => (mem_rl.1 (h.sub x hx)).1⟩
end K78

namespace K78
open PySem PySem.Spec PyProof.Rows L2 Hl Vl
/-- the law's own gap -/
theorem gap_in {c : List (List Int)} {d k : Nat} {D' : EV} (hC : Crs k c) {p : Nat} (hp : p < c.length) : ∀ (cnt : Nat) {q v : Nat} {c4 : Cell}, q + cnt ≤ c.length →
    (∀ d4, D'.nx [.val (cD c), .val (.int d), .val (.int (((rowF p q cnt).map fun x => lk c x.1 x.2).foldl max v : Nat)), .val (.int p), d4]) →
    forV (gV 4) W__law_gap_L1 (rgD q cnt) D' [.val (cD c), .val (.int d), .val (.int v), .val (.int p), c4]
  | 0, q, v, c4, _, h => by simpa [rgD_zero, rowF] using h _
  | cnt + 1, q, v, c4, hq, h => by
    have h2 : q < c.length := by omega
    have B := hC.at h2
    have hk := hC.hk
    rw [rgD_succ, for_cons]
    generalize hF : forV (gV 4) W__law_gap_L1 (rgD ((q : Int) + 1) cnt) D' = F
    simp [W__law_gap_L1, at_c hp, at_c h2]
    refine law_lacks_ok (by have := B.len; omega) ?_
    have e : max (v : Int) ((woB (cAt c q) (cAt c p)).length : Nat) = ((max v (lk c p q) : Nat) : Int) := by unfold lk; omega
    simp [e]
    rw [← hF]
    exact gap_in hC hp cnt (q := q + 1) (by omega) (by simpa [rowF] using h)
theorem gap_out {c : List (List Int)} {d k : Nat} {D' : EV} (hC : Crs k c) : ∀ (cnt : Nat) {p v : Nat} {c3 c4 : Cell}, p + cnt = c.length →
    (∀ d3 d4, D'.nx [.val (cD c), .val (.int d), .val (.int (((prsF c.length d p cnt).map fun x => lk c x.1 x.2).foldl max v : Nat)), d3, d4]) →
    forV (gV 3) W__law_gap_L2 (rgD p cnt) D' [.val (cD c), .val (.int d), .val (.int v), c3, c4]
  | 0, q, v, c3, c4, _, h => by simpa [rgD_zero, prsF] using h _ _
  | cnt + 1, p, v, c3, c4, hq, h => by
    have hc := hC.len
    rw [rgD_succ, for_cons]
    generalize hF : forV (gV 3) W__law_gap_L2 (rgD ((p : Int) + 1) cnt) D' = F
    have en : (min (c.length : Int) ((p : Int) + d + 1) - p).toNat = min c.length (p + d + 1) - p := by omega
    simp [W__law_gap_L2, en, -forV]
    refine ⟨by omega, ?_⟩
    refine gap_in hC (p := p) (by omega) _ (q := p) (by omega) fun d4 => ?_
    rw [← hF]
    refine gap_out hC cnt (p := p + 1) (by omega) fun d3 d4 => ?_
    have := h d3 d4
    rw [prsF, List.map_append, List.foldl_append] at this
    exact this
theorem law_gap_ok {c : List (List Int)} {d k : Nat} {Q : D → Prop} (hC : Crs k c) (h : Q (.int (gapOf c d))) : W__law_gap [cD c, .int d] Q := by
  have hc := hC.len
  simp [W__law_gap, -forV]
  refine ⟨by omega, ?_⟩
  refine gap_out hC c.length (p := 0) (v := 0) (by omega) fun d3 d4 => ?_
  simpa [gapOf, mxL, prs] using h
end K78

namespace K78
open PySem PySem.Spec PyProof.Rows L2 Hl Vl
theorem comers_ok {c : List (List Int)} {i : Int} {a b : List Int} {Q : D → Prop} (e1 : atI (c.map tI) i = some (tI a)) (e2 : atI (c.map tI) (i - 1) = some (tI b)) (hz : a.length ≤ sizeLine) (h : Q (tI (woB a b))) : W_comers [.tup (c.map tI), .int i] Q := by
  simp [W_comers, e1]
  refine lc_of D.int (fun x => !decide (x ∈ b)) D.int (fun x => [.val (.tup (c.map tI)), .val (.int i), .val (.int x)]) a [] (fun x hx A B h1 h2 => ?_) (fun x => by simp) (by simpa using hz) ?_
  · simp [e2] at h1 h2 ⊢
    exact ⟨h1, h2⟩
  · simpa [Function.comp_def, woB] using h
/-- other lots, dicts too, by who is in them -/
def mem1 (x : Int) : D → Bool
  | .tup l => (intsO l).any fun ns => decide (x ∈ ns)
  | .dct l => (valD l (.inl x)).isSome
  | _ => false
def isLot : D → Bool
  | .tup l => (intsO l).isSome
  | .dct _ => true
  | _ => false
theorem lot_without_ok {a : List Int} {os : List D} {Q : D → Prop} (hz : a.length ≤ sizeLine) (ho : os.length ≤ 1000) (hl : ∀ o ∈ os, isLot o = true) (h : Q (tI (a.filter fun x => !(os.any (mem1 x))))) : starW 1 W_lot_without (tI a :: os) Q := by
  have hz2 : os.length + 1 ≤ sizeLine := by rw [sizeLine_eq]; omega
  simp [W_lot_without, hz2]
  refine lc_of D.int (fun x => !(os.any (mem1 x))) D.int (fun x => [.val (tI a), .val (.tup os), .val (.int x), .no]) a [] (fun x hx A B h1 h2 => ?_) (fun x => by simp) (by simpa using hz) ?_
  · simp
    refine lc_ofD (fun _ => true) (fun o => .bl (mem1 x o)) (fun o => [.val (tI a), .val (.tup os), .val (.int x), .val o]) os [] (fun o ho A' B' k1 k2 => ?_) (fun o => by simp) (by simp; omega) ?_
    · have := hl o ho
      simp at k1 ⊢
      cases o with
      | tup l =>
        simp [isLot, Option.isSome_iff_exists] at this
        obtain ⟨ns, e⟩ := this
        cases intsO_eq e
        simp [mem1] at k1 ⊢
        exact k1
      | dct l => simp [mem1] at k1 ⊢; exact k1
      | _ => cases this
    · have e : (os.map fun o => D.bl (mem1 x o)) = (os.map (mem1 x)).map D.bl := by simp
      have e2 : os.filter (fun _ => true) = os := by simp
      rw [e2, List.nil_append, e, blsO_bls, oK_some]
      simp at h1 h2 ⊢
      exact ⟨h1, h2⟩
  · simpa [Function.comp_def] using h

def opn (L : List Int) (gn : Int) (cur B : List Int) : Bool := decide (gn < (B.length : Int) + ((inB cur L).length : Int))
def freeB (L K T fr : List Int) : List Int := fr.filter fun x => !(decide (x ∈ K) || (decide (x ∈ L) || decide (x ∈ T)))
@[simp] theorem mem_freeB {x : Int} {L K T fr : List Int} : x ∈ freeB L K T fr ↔ x ∈ fr ∧ x ∉ K ∧ x ∉ L ∧ x ∉ T := by simp [freeB]
def nextB (L K : List Int) (gn : Int) (cur nx B T : List Int) : List Int := sortI (inB B nx ++ if opn L gn cur B then freeB L K T (woB nx cur) else [])
def nextT (L : List Int) (gn : Int) (cur nx B T : List Int) : List Int := if opn L gn cur B then T else T ++ woB nx cur
def lineS (L K : List Int) (gn : Int) : Int → List Int → List (List Int) → List Int → List Int → List (List Int) × List Int
  | _, _, [], _, _ => ([], [])
  | i, cur, nx :: rest, B, T =>
    let r := lineS L K gn (i + 1) nx rest (nextB L K gn cur nx B T) (nextT L gn cur nx B T)
    (nextB L K gn cur nx B T :: r.1, if opn L gn cur B then i :: r.2 else r.2)
def startB (L K cur : List Int) : List Int := cur.filter fun x => !(decide (x ∈ K) || decide (x ∈ L))
@[simp] theorem mem_startB {x : Int} {L K cur : List Int} : x ∈ startB L K cur ↔ x ∈ cur ∧ x ∉ K ∧ x ∉ L := by simp [startB]
def lineF (L K : List Int) (gn i : Int) (cur : List Int) (rest : List (List Int)) : List (List Int) × List Int :=
  let r := lineS L K gn i cur rest (startB L K cur) []
  (startB L K cur :: r.1, r.2)
theorem lineS_len {L K : List Int} {gn : Int} : ∀ {i : Int} {cur : List Int} {rest : List (List Int)} {B T : List Int}, (lineS L K gn i cur rest B T).1.length = rest.length
  | _, _, [], _, _ => rfl
  | i, cur, nx :: rest, B, T => by
    simp only [lineS, List.length_cons]
    rw [lineS_len]
theorem lineF_len {L K : List Int} {gn i : Int} {cur : List Int} {rest : List (List Int)} : (lineF L K gn i cur rest).1.length = rest.length + 1 := by
  simp only [lineF, List.length_cons, lineS_len]
/-- good lines -/
structure Gd (L cur B : List Int) : Prop where
  nd : B.Nodup
  sub : ∀ x ∈ B, x ∈ cur
  fr : ∀ x ∈ B, x ∉ L
theorem Gd.start {L K cur : List Int} (h : cur.Nodup) : Gd L cur (startB L K cur) :=
  ⟨h.sublist (List.filter_sublist ..), fun x hx => (mem_startB.1 hx).1, fun x hx => (mem_startB.1 hx).2.2⟩
theorem mem_nextB {L K : List Int} {gn : Int} {cur nx B T : List Int} {x : Int} : x ∈ nextB L K gn cur nx B T ↔ (x ∈ B ∧ x ∈ nx) ∨ (opn L gn cur B = true ∧ x ∈ nx ∧ x ∉ cur ∧ x ∉ K ∧ x ∉ L ∧ x ∉ T) := by
  unfold nextB
  rw [mem_sortI, List.mem_append, mem_inB]
  by_cases h : opn L gn cur B = true
  · simp [h, and_assoc]
  · simp [h]
theorem Gd.next {L K : List Int} {gn : Int} {cur nx B T : List Int} (h : Gd L cur B) (hn : nx.Nodup) : Gd L nx (nextB L K gn cur nx B T) := by
  refine ⟨?_, fun x hx => ?_, fun x hx => ?_⟩
  · refine (sortI_perm _).nodup_iff.2 ?_
    rw [List.nodup_append]
    refine ⟨h.nd.sublist (List.filter_sublist ..), ?_, fun a ha b hb e => ?_⟩
    · split
      · exact (hn.sublist (List.filter_sublist ..)).sublist (List.filter_sublist ..)
      · exact List.nodup_nil
    · subst e
      split at hb
      · exact (mem_woB.1 (mem_freeB.1 hb).1).2 (h.sub _ (mem_inB.1 ha).1)
      · cases hb
  · rcases mem_nextB.1 hx with h | h
    · exact h.2
    · exact h.2.1
  · rcases mem_nextB.1 hx with h' | h'
    · exact h.fr x h'.1
    · exact h'.2.2.2.2.1
theorem Gd.len {L cur B : List Int} (h : Gd L cur B) : B.length ≤ cur.length := h.nd.length_le_of_subset h.sub
/-- more needed, more blanks -/
theorem lineS_need {L K : List Int} {g1 g2 : Int} (hg : g2 ≤ g1) : ∀ {i : Int} {cur : List Int} {rest : List (List Int)} {B1 T1 B2 T2 : List Int}, (∀ l ∈ rest, l.Nodup) → Gd L cur B1 → (∀ x ∈ B1, x ∈ B2) → (∀ x ∈ T2, x ∈ T1) →
    ∀ (j : Nat) (a b : List Int), (lineS L K g1 i cur rest B1 T1).1[j]? = some a → (lineS L K g2 i cur rest B2 T2).1[j]? = some b → ∀ x ∈ a, x ∈ b
  | _, _, [], _, _, _, _, _, _, _, _, j, a, b, ha, _ => by simp [lineS] at ha
  | i, cur, nx :: rest, B1, T1, B2, T2, hr, hG, hB, hT, j, a, b, ha, hb => by
    have ho : opn L g1 cur B1 = true → opn L g2 cur B2 = true := by
      unfold opn
      intro h
      have := of_decide_eq_true h
      have := len_le hG.nd hB
      exact decide_eq_true (by omega)
    have hB' : ∀ x ∈ nextB L K g1 cur nx B1 T1, x ∈ nextB L K g2 cur nx B2 T2 := fun x hx => by
      rcases mem_nextB.1 hx with h | h
      · exact mem_nextB.2 (.inl ⟨hB x h.1, h.2⟩)
      · exact mem_nextB.2 (.inr ⟨ho h.1, h.2.1, h.2.2.1, h.2.2.2.1, h.2.2.2.2.1, fun z => h.2.2.2.2.2 (hT x z)⟩)
    have hT' : ∀ x ∈ nextT L g2 cur nx B2 T2, x ∈ nextT L g1 cur nx B1 T1 := fun x hx => by
      unfold nextT at hx ⊢
      by_cases h1 : opn L g1 cur B1 = true
      · rw [if_pos (ho h1)] at hx
        rw [if_pos h1]; exact hT x hx
      · rw [if_neg h1]
        split at hx
        · exact List.mem_append_left _ (hT x hx)
        · rcases List.mem_append.1 hx with z | z
          · exact List.mem_append_left _ (hT x z)
          · exact List.mem_append_right _ z
    cases j with
    | zero =>
      simp only [lineS, List.getElem?_cons_zero, Option.some.injEq] at ha hb
      subst ha hb
      exact hB'
    | succ j =>
      simp only [lineS, List.getElem?_cons_succ] at ha hb
      exact lineS_need hg (fun l hl => hr l (List.mem_cons_of_mem _ hl)) (hG.next (hr nx (List.mem_cons_self ..))) hB' hT' j a b ha hb
theorem lineF_need {L K : List Int} {g1 g2 : Int} (hg : g2 ≤ g1) {i : Int} {cur : List Int} {rest : List (List Int)} (hc : cur.Nodup) (hr : ∀ l ∈ rest, l.Nodup) (j : Nat) (a b : List Int) (ha : (lineF L K g1 i cur rest).1[j]? = some a) (hb : (lineF L K g2 i cur rest).1[j]? = some b) : ∀ x ∈ a, x ∈ b := by
  cases j with
  | zero =>
    simp only [lineF, List.getElem?_cons_zero, Option.some.injEq] at ha hb
    subst ha hb
    exact fun x h => h
  | succ j =>
    simp only [lineF, List.getElem?_cons_succ] at ha hb
    exact lineS_need hg hr (.start hc) (fun x h => h) (fun x h => h) j a b ha hb
/-- more liars: a liar or a blank is a liar or a blank -/
theorem lineS_more {L M K : List Int} {gn : Int} (hL : ∀ x ∈ L, x ∈ M) : ∀ {i : Int} {cur : List Int} {rest : List (List Int)} {B1 T1 B2 T2 : List Int}, cur.Nodup → (∀ l ∈ rest, l.Nodup) → Gd L cur B1 → (∀ x ∈ B1, x ∈ M ∨ x ∈ B2) → (∀ x ∈ T2, x ∈ T1) →
    ∀ (j : Nat) (a b : List Int), (lineS L K gn i cur rest B1 T1).1[j]? = some a → (lineS M K gn i cur rest B2 T2).1[j]? = some b → ∀ x ∈ a, x ∈ M ∨ x ∈ b
  | _, _, [], _, _, _, _, _, _, _, _, _, j, a, b, ha, _ => by simp [lineS] at ha
  | i, cur, nx :: rest, B1, T1, B2, T2, hc, hr, hG, hB, hT, j, a, b, ha, hb => by
    have ho : opn L gn cur B1 = true → opn M gn cur B2 = true := by
      unfold opn
      intro h
      have h1 := of_decide_eq_true h
      have h2 : (B1 ++ inB cur L).length ≤ (B2 ++ inB cur M).length := by
        refine len_le ?_ fun x hx => ?_
        · rw [List.nodup_append]
          refine ⟨hG.nd, hc.sublist (List.filter_sublist ..), fun a ha b hb e => ?_⟩
          subst e
          exact hG.fr a ha (mem_inB.1 hb).2
        · rcases List.mem_append.1 hx with z | z
          · rcases hB x z with w | w
            · exact List.mem_append_right _ (mem_inB.2 ⟨hG.sub x z, w⟩)
            · exact List.mem_append_left _ w
          · exact List.mem_append_right _ (mem_inB.2 ⟨(mem_inB.1 z).1, hL x (mem_inB.1 z).2⟩)
      rw [List.length_append, List.length_append] at h2
      exact decide_eq_true (by omega)
    have hB' : ∀ x ∈ nextB L K gn cur nx B1 T1, x ∈ M ∨ x ∈ nextB M K gn cur nx B2 T2 := fun x hx => by
      rcases mem_nextB.1 hx with h | h
      · rcases hB x h.1 with z | z
        · exact .inl z
        · exact .inr (mem_nextB.2 (.inl ⟨z, h.2⟩))
      · by_cases hM : x ∈ M
        · exact .inl hM
        · exact .inr (mem_nextB.2 (.inr ⟨ho h.1, h.2.1, h.2.2.1, h.2.2.2.1, hM, fun z => h.2.2.2.2.2 (hT x z)⟩))
    have hT' : ∀ x ∈ nextT M gn cur nx B2 T2, x ∈ nextT L gn cur nx B1 T1 := fun x hx => by
      unfold nextT at hx ⊢
      by_cases h1 : opn L gn cur B1 = true
      · rw [if_pos (ho h1)] at hx
        rw [if_pos h1]; exact hT x hx
      · rw [if_neg h1]
        split at hx
        · exact List.mem_append_left _ (hT x hx)
        · rcases List.mem_append.1 hx with z | z
          · exact List.mem_append_left _ (hT x z)
          · exact List.mem_append_right _ z
    cases j with
    | zero =>
      simp only [lineS, List.getElem?_cons_zero, Option.some.injEq] at ha hb
      subst ha hb
      exact hB'
    | succ j =>
      simp only [lineS, List.getElem?_cons_succ] at ha hb
      exact lineS_more hL (hr nx (List.mem_cons_self ..)) (fun l hl => hr l (List.mem_cons_of_mem _ hl)) (hG.next (hr nx (List.mem_cons_self ..))) hB' hT' j a b ha hb
theorem lineF_more {L M K : List Int} {gn : Int} (hL : ∀ x ∈ L, x ∈ M) {i : Int} {cur : List Int} {rest : List (List Int)} (hc : cur.Nodup) (hr : ∀ l ∈ rest, l.Nodup) (j : Nat) (a b : List Int) (ha : (lineF L K gn i cur rest).1[j]? = some a) (hb : (lineF M K gn i cur rest).1[j]? = some b) : ∀ x ∈ a, x ∈ M ∨ x ∈ b := by
  have h0 : ∀ x ∈ startB L K cur, x ∈ M ∨ x ∈ startB M K cur := fun x hx => by
    by_cases hM : x ∈ M
    · exact .inl hM
    · exact .inr (mem_startB.2 ⟨(mem_startB.1 hx).1, (mem_startB.1 hx).2.1, hM⟩)
  cases j with
  | zero =>
    simp only [lineF, List.getElem?_cons_zero, Option.some.injEq] at ha hb
    subst ha hb
    exact h0
  | succ j =>
    simp only [lineF, List.getElem?_cons_succ] at ha hb
    exact lineS_more hL hc hr (.start hc) h0 (fun x h => h) j a b ha hb
/-- the law's own line -/
theorem nextB_law {L K : List Int} {gn : Int} {cur nx B T : List Int} (hn : nx.Nodup) (hG : Gd L cur B) : nextB L K gn cur nx B T = sortI (inB nx B ++ if opn L gn cur B then freeB L K T (woB nx cur) else []) := by
  refine sort_eq (List.Perm.append_right _ ?_)
  refine (List.perm_ext_iff_of_nodup (hG.nd.sublist (List.filter_sublist ..)) (hn.sublist (List.filter_sublist ..))).2 fun x => ?_
  simp [inB, and_comm]

end K78

namespace K78
open PySem PySem.Spec PyProof.Rows L2 Hl Vl
def numFs (k f d m w1 w2 g : Int) : List (Str × D) := [("k", .int k), ("f", .int f), ("d", .int d), ("m", .int m), ("w1", .int w1), ("w2", .int w2), ("g", .int g)]
abbrev numO (k f d m w1 w2 g : Int) : D := .obj "Numbers" (numFs k f d m w1 w2 g)
section
variable {k f d m w1 w2 g : Int}
@[simp] theorem num_d : (numFs k f d m w1 w2 g).lookup (Str.ofString "d") = some (.int d) := by rfl
@[simp] theorem num_m : (numFs k f d m w1 w2 g).lookup (Str.ofString "m") = some (.int m) := by rfl
@[simp] theorem num_g : (numFs k f d m w1 w2 g).lookup (Str.ofString "g") = some (.int g) := by rfl
theorem num_put : putD "g" (.int g) (putD "w2" (.int w2) (putD "w1" (.int w1) (putD "m" (.int m) (putD "d" (.int d) (putD "f" (.int f) (putD "k" (.int k) [])))))) = numFs k f d m w1 w2 g := by rfl
theorem numbers_ok {P : List (Str × D) → Prop} (hk : 1 ≤ k ∧ k ≤ 12) (hf : 0 ≤ f ∧ f ≤ k) (hd : 1 ≤ d ∧ d ≤ 200) (hm : 1 ≤ m ∧ m ≤ k ∧ m ≤ 6) (h1 : 1 ≤ w1 ∧ w1 ≤ k) (h2 : 1 ≤ w2 ∧ w2 ≤ k) (h3 : 1 ≤ g ∧ g ≤ k) (h : P (numFs k f d m w1 w2 g)) :
    W_Numbers_init [.int k, .int f, .int d, .int m, .int w1, .int w2, .int g] P := by
  have z : ∀ {i : Int}, 1 ≤ i → ¬ i = 0 := fun h => by omega
  have s3 : (3 : Nat) ≤ sizeLine := by decide
  simp only [W_Numbers_init, wInit]
  refine ⟨rfl, fun p => ?_⟩
  have a1 : 0 ≤ k := by omega
  have a2 : 0 ≤ d := by omega
  have a3 : 0 ≤ m := by omega
  have a4 : 0 ≤ w1 := by omega
  have a5 : 0 ≤ w2 := by omega
  have a6 : 0 ≤ g := by omega
  have a7 : m ≤ min k 6 := by omega
  simp [W_Numbers_init_L1, is_number_iff, Pl.int, isNum, enD, prI, -putD, a1, a2, a3, a4, a5, a6, a7, hk.2, hf.1, hf.2, hd.2, h1.2, h2.2, h3.2, z hk.1, z hd.1, z hm.1, z h1.1, z h2.1, z h3.1, s3]
  exact ⟨(by decide : 1 < 1000), (by decide : 2 < 1000), (by decide : 3 < 1000), (by decide : 4 < 1000), (by decide : 5 < 1000), (by decide : 6 < 1000), h⟩
end

/-- a dict that knows just these -/
def LateIs (late : List (Key × D)) (bs : List Int) : Prop := (∀ x : Int, (valD late (.inl x)).isSome = decide (x ∈ bs)) ∧ late.length ≤ bs.length
theorem valD_put (late : List (Key × D)) (k k' : Key) (v : D) : (valD (putKD late k v) k').isSome = (decide (k' = k) || (valD late k').isSome) := by
  have any : ∀ l : List (Key × D), (l.any fun kv => decide (kv.1 = k')) = (valD l k').isSome := by
    intro l
    induction l with
    | nil => rfl
    | cons kv l ih =>
      unfold valD at ih ⊢
      rw [List.any_cons, List.find?_cons]
      by_cases h : kv.1 = k' <;> simp [h, ih]
  rw [← any, ← any]
  unfold putKD
  split
  · rename_i h
    rw [List.any_map]
    have : (late.any ((fun kv => decide (kv.1 = k')) ∘ fun kv => if kv.1 = k then (kv.1, v) else kv)) = late.any fun kv => decide (kv.1 = k') := by
      congr 1
      funext kv
      simp only [Function.comp]
      split <;> rfl
    rw [this]
    by_cases e : k' = k
    · subst e; simp [h]
    · simp [e]
  · rw [List.any_append]
    simp only [List.any_cons, List.any_nil, Bool.or_false]
    rw [Bool.or_comm]
    congr 1
    by_cases e : k' = k
    · simp [e]
    · have : ¬ k = k' := fun z => e z.symm
      simp [e, this]
theorem putKD_len (late : List (Key × D)) (k : Key) (v : D) : (putKD late k v).length ≤ late.length + 1 := by
  unfold putKD
  split <;> simp
theorem LateIs.put {late : List (Key × D)} {bs : List Int} (h : LateIs late bs) (x : Int) (v : D) : LateIs (putKD late (.inl x) v) (bs ++ [x]) := by
  refine ⟨fun y => ?_, ?_⟩
  · rw [valD_put, h.1]
    by_cases e : y = x
    · subst e; simp
    · have : ¬ (Sum.inl y : Key) = Sum.inl x := fun z => e (Sum.inl.inj z)
      simp [e, this]
  · have := putKD_len late (.inl x) v
    have := h.2
    simp; omega
/-- the houses of a closed word are late -/
theorem late_loop {D' : EV} : ∀ (fr : List Int) {a0 a1 a2 a3 a4 a5 a6 a7 a9 a10 a11 a12 a13 a14 : Cell} {late : List (Key × D)} {bs : List Int}, LateIs late bs → bs.length + fr.length ≤ 100000 →
    (∀ late' c, LateIs late' (bs ++ fr) → D'.nx [a0, a1, a2, a3, a4, a5, a6, a7, .dic late', a9, a10, a11, a12, a13, c]) →
    forV (gV 14) W_line_from_L1 (fr.map D.int) D' [a0, a1, a2, a3, a4, a5, a6, a7, .dic late, a9, a10, a11, a12, a13, a14]
  | [], _, _, _, _, _, _, _, _, _, _, _, _, _, _, late, bs, hl, _, h => by
    simpa using h late _ (by simpa using hl)
  | x :: fr, _, _, _, _, _, _, _, _, _, _, _, _, _, _, late, bs, hl, hz, h => by
    rw [List.length_cons] at hz
    have hs : late.length < sizeLine := by have := hl.2; rw [sizeLine_eq]; omega
    simp [W_line_from_L1, hs]
    exact late_loop fr (hl.put x _) (by simp; omega) fun late' c hl' => h late' c (by simpa using hl')

end K78

namespace K78
open PySem PySem.Spec PyProof.Rows L2 Hl Vl
theorem at_c' {c : List (List Int)} {i : Nat} {l : List Int} (h : c[i]? = some l) : atI (c.map tI) (i : Int) = some (tI l) :=
  atI_nat (by rw [List.getElem?_map, h]; rfl)
@[simp] theorem mem1_tI {x : Int} {l : List Int} : mem1 x (tI l) = decide (x ∈ l) := by simp [mem1]
@[simp] theorem isLot_tI {l : List Int} : isLot (tI l) = true := by simp [isLot]
theorem lot_ok {a : List Int} {os : List D} {Q : D → Prop} (hz : a.length ≤ sizeLine) (ho : os.length ≤ 1000) (hl : ∀ o ∈ os, isLot o = true) (h : Q (tI (a.filter fun x => !(os.any (mem1 x))))) : W_lot_without [tI a, .tup os] Q := by
  have := lot_without_ok hz ho hl h
  simp at this
  exact this.2
structure Cls (c : List (List Int)) : Prop where
  len : c.length ≤ 300
  nd : ∀ l ∈ c, l.Nodup
  sm : ∀ l ∈ c, l.length ≤ 24
theorem line_loop {D' : EV} {c : List (List Int)} {L K : List Int} {fs : List (Str × D)} {g need : Int} {c2 c6 : Cell} (hC : Cls c) (hg : fs.lookup (Str.ofString "g") = some (.int g)) : ∀ (rest : List (List Int)) {i : Nat} {cur B T : List Int} {late : List (Key × D)} {lots gates : List D} {c11 c12 c13 c14 : Cell},
    c.drop i = cur :: rest → Gd L cur B → LateIs late T → T.length + 24 * rest.length ≤ 10000 → lots.length + rest.length ≤ 1000 → gates.length + rest.length ≤ 1000 →
    (∀ b late' d11 d12 d13 d14, D'.nx [.val (.tup (c.map tI)), .val (.obj "Numbers" fs), c2, .val (tI L), .val (tI K), .val (.int need), c6, b, .dic late', .own (lots ++ (lineS L K (g - need) i cur rest B T).1.map tI), .own (gates ++ (lineS L K (g - need) i cur rest B T).2.map D.int), d11, d12, d13, d14]) →
    forV (gV 11) W_line_from_L2 (rgD i rest.length) D' [.val (.tup (c.map tI)), .val (.obj "Numbers" fs), c2, .val (tI L), .val (tI K), .val (.int need), c6, .val (tI B), .dic late, .own lots, .own gates, c11, c12, c13, c14]
  | [], _, _, _, _, _, _, _, _, _, _, _, _, _, _, _, _, _, h => by
    simpa [rgD_zero, lineS] using h _ _ _ _ _ _
  | nx :: rest, i, cur, B, T, late, lots, gates, _, _, _, _, hd, hG, hT, h1, h2, h3, h => by
    obtain ⟨e1, hd'⟩ := drop_at hd
    obtain ⟨e2, _⟩ := drop_at hd'
    have s24 : ∀ {n : Nat}, n ≤ 24 → n ≤ sizeLine := fun h => by rw [sizeLine_eq]; omega
    have m1 := List.mem_of_getElem? e1
    have m2 := List.mem_of_getElem? e2
    have a1 := at_c' e1
    have a2 := at_c' e2
    rw [Int.natCast_add] at a2
    have hcB : B.length ≤ 24 := Nat.le_trans hG.len (hC.sm _ m1)
    have ec : (i : Int) + 1 - 1 = i := by omega
    rw [List.length_cons] at h1 h2 h3 ⊢
    rw [rgD_succ]
    rw [forV]
    simp only [gV]
    generalize hF : forV (gV 11) W_line_from_L2 (rgD ((i : Int) + 1) rest.length) D' = F
    simp [W_line_from_L2]
    have a2' : atI (c.map tI) ((i : Int) + 1) = some (tI nx) := a2
    simp [a2', a1, hg]
    refine in_both_ok (by omega) (comers_ok a2' (by rw [ec]; exact a1) (s24 (hC.sm _ m2)) (in_both_ok (by have := hC.sm _ m1; omega) ?_))
    have hop : ((g - need + 1 ≤ (B.length : Int) + ((inB cur L).length : Int)) ↔ opn L (g - need) cur B = true) := by
      unfold opn; rw [decide_eq_true_eq]; omega
    have hfr : (woB nx cur).length ≤ 24 := Nat.le_trans len_woB (hC.sm _ m2)
    have hin : (inB B nx).length ≤ 24 := Nat.le_trans len_inB hcB
    have zz : ∀ {n : Nat}, n ≤ 100000 → n < sizeLine := fun h => by rw [sizeLine_eq]; omega
    have z1 : gates.length < sizeLine := zz (by omega)
    have z2 : lots.length < sizeLine := zz (by omega)
    have z4 : (4 : Nat) ≤ sizeLine := by rw [sizeLine_eq]; omega
    have hG' := hG.next (K := K) (gn := g - need) (T := T) (hC.nd _ m2)
    simp [hop]
    refine ⟨fun ho => ⟨z1, ?_⟩, fun ho => ?_⟩
    · refine ⟨z4, lot_ok (s24 hfr) (by simp) (by simp [isLot]) ?_⟩
      have ef : (woB nx cur).filter (fun x => !([tI K, tI L, D.dct late].any (mem1 x))) = freeB L K T (woB nx cur) := by
        unfold freeB
        refine List.filter_congr fun x _ => ?_
        simp [mem1, hT.1]
      rw [ef]
      have hfl : (freeB L K T (woB nx cur)).length ≤ 24 := Nat.le_trans (List.length_filter_le ..) hfr
      have zl : (inB B nx).length + (freeB L K T (woB nx cur)).length ≤ sizeLine := by rw [sizeLine_eq]; omega
      have eB : sortI (inB B nx ++ freeB L K T (woB nx cur)) = nextB L K (g - need) cur nx B T := by
        unfold nextB; rw [if_pos ho]
      simp [zl, ← List.map_append, eB, z2]
      rw [← hF]
      refine line_loop hC hg rest (i := i + 1) hd' hG' hT (by omega) (by simp; omega) (by simp; omega) fun b late' d11 d12 d13 d14 => ?_
      simpa [lineS, nextT, ho] using h b late' d11 d12 d13 d14
    · have eB : sortI (inB B nx) = nextB L K (g - need) cur nx B T := by
        unfold nextB; rw [if_neg (by rw [ho]; exact Bool.false_ne_true), List.append_nil]
      refine late_loop _ hT (by omega) fun late' c' hl' => ?_
      simp [eB, z2]
      rw [← hF]
      refine line_loop hC hg rest (i := i + 1) hd' hG' hl' (by simp; omega) (by simp; omega) (by omega) fun b late' d11 d12 d13 d14 => ?_
      simpa [lineS, nextT, ho] using h b late' d11 d12 d13 d14

def lineR (c : List (List Int)) (L K : List Int) (gn : Int) (s : Nat) : List (List Int) × List Int := match c.drop s with
  | [] => ([], [])
  | cur :: rest => lineF L K gn s cur rest
theorem start_eq {L K cur : List Int} : cur.filter (fun x => !([tI K, tI L].any (mem1 x))) = startB L K cur := by
  unfold startB
  refine List.filter_congr fun x _ => ?_
  simp
theorem lateNil : LateIs [] [] := ⟨fun x => by simp [valD], Nat.le_refl _⟩
theorem line_from_ok {c : List (List Int)} {L K : List Int} {fs : List (Str × D)} {g need p d : Int} {s : Nat} {Q : D → Prop} (hC : Cls c) (hg : fs.lookup (Str.ofString "g") = some (.int g)) (hd : fs.lookup (Str.ofString "d") = some (.int d)) (hs : p + d = s)
    (h : Q (.tup [.lst ((lineR c L K (g - need) s).1.map tI), lI (lineR c L K (g - need) s).2])) : W_line_from [.tup (c.map tI), .obj "Numbers" fs, .int p, tI L, tI K, .int need] Q := by
  simp [W_line_from, hd, hs]
  refine ⟨fun hz => ?_, fun hz => ?_⟩
  · have e : c.drop s = [] := List.drop_eq_nil_of_le hz
    unfold lineR at h
    rw [e] at h
    have := hC.len
    have z2 : (2 : Nat) ≤ sizeLine := by rw [sizeLine_eq]; omega
    simp [z2]
    exact h
  · obtain ⟨cur, rest, e⟩ : ∃ cur rest, c.drop s = cur :: rest := by
      cases e : c.drop s with
      | nil => have := List.drop_eq_nil_iff.1 e; omega
      | cons a b => exact ⟨_, _, rfl⟩
    unfold lineR at h
    rw [e] at h
    simp only at h
    obtain ⟨e1, _⟩ := drop_at e
    have m1 := List.mem_of_getElem? e1
    have hl := hC.len
    have er : c.length = s + rest.length + 1 := by
      have := congrArg List.length e
      rw [List.length_drop, List.length_cons] at this
      omega
    have s24 : ∀ {n : Nat}, n ≤ 24 → n ≤ sizeLine := fun h => by rw [sizeLine_eq]; omega
    have z4 : (4 : Nat) ≤ sizeLine := s24 (by omega)
    have z3 : (3 : Nat) ≤ sizeLine := s24 (by omega)
    have z2 : (2 : Nat) ≤ sizeLine := s24 (by omega)
    have z0 : (0 : Nat) < sizeLine := by rw [sizeLine_eq]; omega
    simp [at_c' e1]
    refine ⟨z3, lot_ok (s24 (hC.sm _ m1)) (by simp) (by simp) ?_⟩
    rw [start_eq]
    refine ⟨z4, z0, ⟨by omega, by omega, by omega⟩, ?_⟩
    have en : c.length - 1 - s = rest.length := by omega
    rw [en]
    refine line_loop hC hg rest e (.start (hC.nd _ m1)) lateNil (by simp; omega) (by simp; omega) (by simp; omega) fun b late' d11 d12 d13 d14 => ?_
    simp [z2]
    simpa [lineF] using h

end K78

namespace K78
open PySem PySem.Spec PyProof.Rows L2 Hl Vl
theorem lineS_len2 {L K : List Int} {gn : Int} : ∀ {i : Int} {cur : List Int} {rest : List (List Int)} {B T : List Int}, (lineS L K gn i cur rest B T).2.length ≤ rest.length
  | _, _, [], _, _ => Nat.le_refl _
  | i, cur, nx :: rest, B, T => by
    have := @lineS_len2 L K gn (i + 1) nx rest (nextB L K gn cur nx B T) (nextT L gn cur nx B T)
    simp only [lineS, List.length_cons]
    split
    · rw [List.length_cons]; omega
    · omega
theorem lineR_len {c : List (List Int)} {L K : List Int} {gn : Int} {s : Nat} : (lineR c L K gn s).1.length = c.length - s ∧ (lineR c L K gn s).2.length ≤ c.length := by
  unfold lineR
  cases e : c.drop s with
  | nil =>
    have := congrArg List.length e
    rw [List.length_drop, List.length_nil] at this
    simp; omega
  | cons a b =>
    have := congrArg List.length e
    rw [List.length_drop, List.length_cons] at this
    have := @lineS_len2 L K gn s a b (startB L K a) []
    refine ⟨by rw [lineF_len]; omega, ?_⟩
    simp only [lineF]
    omega
section
variable {c : List (List Int)} {L K : List Int} {fs : List (Str × D)} {g need p d : Int} {s : Nat} {Q : D → Prop}
theorem blanks_ok (hC : Cls c) (hg : fs.lookup (Str.ofString "g") = some (.int g)) (hd : fs.lookup (Str.ofString "d") = some (.int d)) (hs : p + d = s)
    (h : Q (.tup ((lineR c L K (g - need) s).1.map tI))) : W_blanks [.tup (c.map tI), .obj "Numbers" fs, .int p, tI L, tI K, .int need] Q := by
  simp [W_blanks]
  refine line_from_ok hC hg hd hs ?_
  simp [atI]
  exact h
theorem open_words_ok (hC : Cls c) (hg : fs.lookup (Str.ofString "g") = some (.int g)) (hd : fs.lookup (Str.ofString "d") = some (.int d)) (hs : p + d = s)
    (h : Q (tI (lineR c L K (g - need) s).2)) : W_open_words [.tup (c.map tI), .obj "Numbers" fs, .int p, tI L, tI K, .int need] Q := by
  simp [W_open_words]
  refine line_from_ok hC hg hd hs ?_
  simp [atI]
  exact h
end
theorem sum_inB : ∀ {l a : List Int}, (l.map fun x => if x ∈ a then (1 : Int) else 0).sum = ((inB l a).length : Int)
  | [], _ => rfl
  | x :: l, a => by
    have := @sum_inB l a
    unfold inB at this ⊢
    rw [List.map_cons, List.sum_cons, this, List.filter_cons]
    by_cases h : x ∈ a
    · simp [h]; omega
    · simp [h]
theorem lawline_loop {D' : EV} {c : List (List Int)} {L K : List Int} {g need : Int} {c1 c3 c5 : Cell} (hL : L.length ≤ 24) (hK : K.length ≤ 24) (hC : Cls c) : ∀ (rest : List (List Int)) {i : Nat} {cur B T : List Int} {lots gates : List D} {c11 c12 c13 : Cell},
    c.drop i = cur :: rest → Gd L cur B → T.length + 24 * rest.length ≤ 10000 → lots.length + rest.length ≤ 1000 → gates.length + rest.length ≤ 1000 →
    (∀ b ba d11 d12 d13, D'.nx [.val (.tup (c.map tI)), c1, .val (.int g), c3, .val (tI L), c5, .val (.int need), b, .own (lots ++ (lineS L K (g - need) i cur rest B T).1.map tI), .own (gates ++ (lineS L K (g - need) i cur rest B T).2.map D.int), ba, d11, d12, d13, .no]) →
    forV (gV 11) W__law_line_L1 (rgD i rest.length) D' [.val (.tup (c.map tI)), c1, .val (.int g), c3, .val (tI L), c5, .val (.int need), .val (lI B), .own lots, .own gates, .val (lI (L ++ (K ++ T))), c11, c12, c13, .no]
  | [], _, _, _, _, _, _, _, _, _, _, _, _, _, _, h => by
    simpa [rgD_zero, lineS] using h _ _ _ _ _
  | nx :: rest, i, cur, B, T, lots, gates, c11, c12, c13, hd, hG, h1, h2, h3, h => by
    obtain ⟨e1, hd'⟩ := drop_at hd
    obtain ⟨e2, _⟩ := drop_at hd'
    have s24 : ∀ {n : Nat}, n ≤ 24 → n ≤ sizeLine := fun h => by rw [sizeLine_eq]; omega
    have m1 := List.mem_of_getElem? e1
    have m2 := List.mem_of_getElem? e2
    have a1 := at_c' e1
    have a2 := at_c' e2
    rw [Int.natCast_add] at a2
    have a2' : atI (c.map tI) ((i : Int) + 1) = some (tI nx) := a2
    have hcB : B.length ≤ 24 := Nat.le_trans hG.len (hC.sm _ m1)
    have hn := hC.sm _ m2
    have hc := hC.sm _ m1
    rw [List.length_cons] at h1 h2 h3 ⊢
    rw [rgD_succ]
    rw [forV]
    simp only [gV]
    generalize hF : forV (gV 11) W__law_line_L1 (rgD ((i : Int) + 1) rest.length) D' = F
    simp [W__law_line_L1, a2']
    refine lc_v D.int (fun x => !decide (x ∈ cur)) D.int nx [] (fun x hx A' B' k1 k2 => ?_) rfl (by simpa using s24 hn) ?_
    · simp [a1] at k1 k2 ⊢
      exact ⟨k1, k2⟩
    simp [a2']
    refine lc_v D.int (fun x => decide (x ∈ B)) D.int nx [] (fun x hx A' B' k1 k2 => ?_) rfl (by simpa using s24 hn) ?_
    · simp at k1 k2 ⊢
      exact ⟨k1, k2⟩
    simp [a1]
    refine lc_v D.int (fun x => decide (x ∈ L)) D.int cur [] (fun x hx A' B' k1 k2 => ?_) rfl (by simpa using s24 hc) ?_
    · simp at k1 k2 ⊢
      exact ⟨k1, k2⟩
    have i3 : cur.filter (fun x => decide (x ∈ L)) = inB cur L := rfl
    rw [i3, List.nil_append]
    simp
    have hop : ((B.length : Int) + ((inB cur L).length : Int) ≤ g - need ↔ opn L (g - need) cur B = false) := by
      unfold opn; rw [decide_eq_false_iff_not]; omega
    have hop2 : (g - need < (B.length : Int) + ((inB cur L).length : Int) ↔ opn L (g - need) cur B = true) := by
      unfold opn; rw [decide_eq_true_eq]
    have hfr : (woB nx cur).length ≤ 24 := Nat.le_trans len_woB (hC.sm _ m2)
    have hin : (inB nx B).length ≤ 24 := Nat.le_trans len_inB hn
    have zz : ∀ {n : Nat}, n ≤ 100000 → n < sizeLine := fun h => by rw [sizeLine_eq]; omega
    have z1 : gates.length < sizeLine := zz (by omega)
    have z2 : lots.length < sizeLine := zz (by omega)
    have hG' := hG.next (K := K) (gn := g - need) (T := T) (hC.nd _ m2)
    have i1 : nx.filter (fun x => !decide (x ∈ cur)) = woB nx cur := rfl
    have i2 : nx.filter (fun x => decide (x ∈ B)) = inB nx B := rfl
    simp [hop, hop2, i1, i2]
    refine ⟨fun ho => ⟨z1, ?_⟩, fun ho => ?_⟩
    · refine lc_v D.int (fun x => !decide (x ∈ L ++ (K ++ T))) D.int (woB nx cur) [] (fun x hx A' B' k1 k2 => ?_) rfl (by simpa using s24 hfr) ?_
      · generalize L ++ (K ++ T) = Z at k1 k2 ⊢
        simp at k1 k2 ⊢
        exact ⟨k1, k2⟩
      have ef : (woB nx cur).filter (fun x => !decide (x ∈ L ++ (K ++ T))) = freeB L K T (woB nx cur) := by
        unfold freeB
        refine List.filter_congr fun x _ => ?_
        by_cases h1 : x ∈ L <;> by_cases h2 : x ∈ K <;> simp [h1, h2]
      have hfl : (freeB L K T (woB nx cur)).length ≤ 24 := Nat.le_trans (List.length_filter_le ..) hfr
      have zl : (inB nx B).length + (freeB L K T (woB nx cur)).length ≤ sizeLine := by rw [sizeLine_eq]; omega
      have eB : sortI (inB nx B ++ freeB L K T (woB nx cur)) = nextB L K (g - need) cur nx B T := by
        rw [nextB_law (hC.nd _ m2) hG, if_pos ho]
      rw [ef, List.nil_append]
      simp [zl, ← List.map_append, eB, z2]
      rw [← hF]
      refine lawline_loop hL hK hC rest (i := i + 1) hd' hG' (by omega) (by simp; omega) (by simp; omega) fun b ba d11 d12 d13 => ?_
      simpa [lineS, nextT, ho] using h b ba d11 d12 d13
    · have eB : sortI (inB nx B) = nextB L K (g - need) cur nx B T := by
        rw [nextB_law (hC.nd _ m2) hG, if_neg (by rw [ho]; exact Bool.false_ne_true), List.append_nil]
      have zl : L.length + (K.length + T.length) + (woB nx cur).length ≤ sizeLine := by rw [sizeLine_eq]; omega
      refine ⟨zl, z2, ?_⟩
      simp only [← List.map_append, eB]
      rw [← hF]
      refine lawline_loop hL hK hC rest (i := i + 1) (T := T ++ woB nx cur) hd' hG' (by simp; omega) (by simp; omega) (by omega) fun b ba d11 d12 d13 => ?_
      simpa [lineS, nextT, ho] using h b ba d11 d12 d13
theorem law_line_ok {c : List (List Int)} {L K : List Int} {g need p d : Int} {s : Nat} {Q : D → Prop} (hC : Cls c) (hL : L.length ≤ 24) (hK : K.length ≤ 24) (hs : p + d = s) (hz : s < c.length)
    (h : Q (.tup [.tup ((lineR c L K (g - need) s).1.map tI), tI (lineR c L K (g - need) s).2])) : W__law_line [.tup (c.map tI), .int d, .int g, .int p, tI L, tI K, .int need] Q := by
  obtain ⟨cur, rest, e⟩ : ∃ cur rest, c.drop s = cur :: rest := by
    cases e : c.drop s with
    | nil => have := List.drop_eq_nil_iff.1 e; omega
    | cons a b => exact ⟨_, _, rfl⟩
  unfold lineR at h
  rw [e] at h
  simp only at h
  obtain ⟨e1, _⟩ := drop_at e
  have m1 := List.mem_of_getElem? e1
  have hl := hC.len
  have er : c.length = s + rest.length + 1 := by
    have := congrArg List.length e
    rw [List.length_drop, List.length_cons] at this
    omega
  have s24 : ∀ {n : Nat}, n ≤ 48 → n ≤ sizeLine := fun h => by rw [sizeLine_eq]; omega
  have hc := hC.sm _ m1
  have z1 : (1 : Nat) ≤ sizeLine := s24 (by omega)
  have z2 : (2 : Nat) ≤ sizeLine := s24 (by omega)
  have z3 : (3 : Nat) ≤ sizeLine := s24 (by omega)
  have zz : L.length + K.length ≤ sizeLine := s24 (by omega)
  simp [W__law_line, hs, at_c' e1]
  refine lc_v D.int (fun x => !(decide (x ∈ K) || decide (x ∈ L))) D.int cur [] (fun x hx A' B' k1 k2 => ?_) rfl (by simpa using s24 (by omega)) ?_
  · simp at k1 k2 ⊢
    by_cases h1 : x ∈ K <;> by_cases h2 : x ∈ L <;> simp [h1, h2] at k1 k2 ⊢ <;> assumption
  have i1 : cur.filter (fun x => !(decide (x ∈ K) || decide (x ∈ L))) = startB L K cur := rfl
  rw [i1, List.nil_append]
  simp [z1, z2, z3, zz, hs]
  have en : c.length - 1 - s = rest.length := by omega
  refine ⟨⟨by omega, by omega, by omega⟩, ?_⟩
  rw [en]
  have eb : List.map D.int L ++ List.map D.int K = List.map D.int (L ++ (K ++ [])) := by simp
  rw [eb]
  refine lawline_loop (c1 := .val (.int d)) (c3 := .val (.int p)) (c5 := .val (tI K)) hL hK hC rest (T := []) e (.start (hC.nd _ m1)) (by simp; omega) (by simp; omega) (by simp; omega) fun b ba d11 d12 d13 => ?_
  simp [z2]
  simpa [lineF] using h

end K78

namespace K78
open PySem PySem.Spec PyProof.Rows L2 Hl Vl
/-! no word is open -/
theorem lineS_shut {L K : List Int} {gn f : Int} : ∀ {i : Int} {cur : List Int} {rest : List (List Int)} {B T : List Int}, (B.length : Int) + f ≤ gn → (∀ l ∈ cur :: rest, ((inB l L).length : Int) ≤ f) → (lineS L K gn i cur rest B T).2 = []
  | _, _, [], _, _, _, _ => rfl
  | i, cur, nx :: rest, B, T, h1, h2 => by
    have ho : opn L gn cur B = false := by
      unfold opn
      rw [decide_eq_false_iff_not]
      have := h2 cur (List.mem_cons_self ..)
      omega
    simp only [lineS, ho]
    refine lineS_shut (f := f) ?_ fun l hl => h2 l (List.mem_cons_of_mem _ hl)
    unfold nextB
    rw [ho, if_neg Bool.false_ne_true, List.append_nil, len_sortI]
    have := len_inB (a := B) (b := nx)
    omega
theorem start_len {k w most p q : Nat} {L K : List Int} {c : List (List Int)} (hC : Crs k c) (hp : p < c.length) (hq : q < c.length) (hl : lk c p q ≤ most) (hK : K.Nodup) (hKw : K.length = w) (sK : ∀ x ∈ K, x ∈ cAt c p) : (startB L K (cAt c q)).length + w ≤ k + most := by
  have A := hC.at hp
  have B := hC.at hq
  have h1 : (startB L K (cAt c q)).length ≤ (woB (cAt c q) K).length := by
    refine len_le (B.nd.sublist (List.filter_sublist ..)) fun x hx => ?_
    have := mem_startB.1 hx
    exact mem_woB.2 ⟨this.1, this.2.1⟩
  have h2 := len_split (cAt c q) K
  have h3 := len_symm B.nd hK
  have h4 := len_split K (cAt c q)
  have h5 : (woB K (cAt c q)).length ≤ (woB (cAt c p) (cAt c q)).length := by
    refine len_le (nd_woB hK) fun x hx => ?_
    have := mem_woB.1 hx
    exact mem_woB.2 ⟨sK x this.1, this.2⟩
  have h6 := len_split (cAt c p) (cAt c q)
  have h7 := lk_eq hC hp hq
  have := A.len
  have := B.len
  omega
theorem line_shut {k w most p d f : Nat} {gn : Int} {L K : List Int} {c : List (List Int)} (hC : Crs k c) (hq : p + d < c.length) (hl : lk c p (p + d) ≤ most) (hK : K.Nodup) (hKw : K.length = w) (sK : ∀ x ∈ K, x ∈ cAt c p)
    (hL : ∀ l ∈ c, (inB l L).length ≤ f) (hg : (k : Int) + most + f ≤ gn + w) : (lineR c L K gn (p + d)).2 = [] := by
  unfold lineR
  have hd : c.drop (p + d) = cAt c (p + d) :: c.drop (p + d + 1) := by
    unfold cAt
    rw [List.drop_eq_getElem_cons hq, List.getD_eq_getElem?_getD, List.getElem?_eq_getElem hq]
    rfl
  rw [hd]
  simp only [lineF]
  have hs := start_len (L := L) hC (show p < c.length by omega) hq hl hK hKw sK
  refine lineS_shut (f := f) (by omega) fun l hl => ?_
  rw [← hd] at hl
  have := hL l (List.mem_of_mem_drop hl)
  omega
/-! courses of few changes -/
def win (d most : Nat) (ch : List Nat) : Prop := ∀ i, ((ch.drop i).take d).sum ≤ most
theorem sum_take_le : ∀ (n : Nat) (l : List Nat), (l.take n).sum ≤ l.sum
  | 0, l => by simp
  | n + 1, [] => by simp
  | n + 1, x :: l => by have := sum_take_le n l; simp; omega
theorem sum_drop_le : ∀ (n : Nat) (l : List Nat), (l.drop n).sum ≤ l.sum
  | 0, l => by simp
  | n + 1, [] => by simp
  | n + 1, x :: l => by have := sum_drop_le n l; simp; omega
theorem win_last {d most : Nat} {ch : List Nat} (h : win d most ch) : (ch.drop (ch.length - (d - 1))).sum ≤ most := by
  have := h (ch.length - (d - 1))
  rwa [List.take_of_length_le (by rw [List.length_drop]; omega)] at this
theorem win_app {d most a : Nat} {ch : List Nat} (hd : 1 ≤ d) (h : win d most ch) (ha : (ch.drop (ch.length - (d - 1))).sum + a ≤ most) : win d most (ch ++ [a]) := by
  intro i
  by_cases h1 : i ≤ ch.length
  · rw [List.drop_append_of_le_length h1, List.take_append]
    by_cases h2 : ch.length - i + 1 ≤ d
    · have e : ch.drop i = (ch.drop (ch.length - (d - 1))).drop (i - (ch.length - (d - 1))) := by
        rw [List.drop_drop]
        congr 1
        omega
      have e2 := sum_drop_le (i - (ch.length - (d - 1))) (ch.drop (ch.length - (d - 1)))
      rw [← e] at e2
      have e3 := sum_take_le d (ch.drop i)
      have e4 := sum_take_le (d - (ch.drop i).length) [a]
      rw [List.sum_append]
      simp at e4 ⊢
      omega
    · have e : d - (ch.drop i).length = 0 := by rw [List.length_drop]; omega
      rw [e, List.take_zero, List.append_nil]
      exact h i
  · rw [List.drop_of_length_le (by simp; omega)]
    simp
structure Walk (k hs : Nat) (c : List (List Int)) (ch : List Nat) : Prop where
  len : c.length = ch.length + 1
  lot : ∀ l ∈ c, LotIn k (rl hs) l
  st : ∀ i, i < ch.length → lk c i (i + 1) ≤ ch.getD i 0
theorem lk_tri {c : List (List Int)} {p q r : Nat} (h : (cAt c r).Nodup) : lk c p r ≤ lk c p q + lk c q r := by
  unfold lk
  rw [← List.length_append]
  refine len_le (nd_woB h) fun x hx => ?_
  have := mem_woB.1 hx
  by_cases hq : x ∈ cAt c q
  · exact List.mem_append_left _ (mem_woB.2 ⟨hq, this.2⟩)
  · exact List.mem_append_right _ (mem_woB.2 ⟨this.1, hq⟩)
theorem take_succ_sum {l : List Nat} {n : Nat} (h : n < l.length) : (l.take (n + 1)).sum = (l.take n).sum + l.getD n 0 := by
  rw [List.take_succ, List.sum_append, List.getD_eq_getElem?_getD, List.getElem?_eq_getElem h]
  simp
theorem walk_lk {k hs : Nat} {c : List (List Int)} {ch : List Nat} (h : Walk k hs c ch) {p : Nat} : ∀ {n : Nat}, p + n < c.length → lk c p (p + n) ≤ ((ch.drop p).take n).sum
  | 0, _ => by rw [Nat.add_zero, lk_self]; omega
  | n + 1, hn => by
    have h1 := walk_lk h (p := p) (n := n) (by omega)
    have h2 := h.len
    have hm : cAt c (p + (n + 1)) ∈ c := by
      unfold cAt
      rw [List.getD_eq_getElem?_getD, List.getElem?_eq_getElem hn]
      exact List.getElem_mem hn
    have h3 := lk_tri (p := p) (q := p + n) (lt_nd (h.lot _ hm).lt)
    have h4 := h.st (p + n) (by omega)
    rw [take_succ_sum (by rw [List.length_drop]; omega)]
    have e : (ch.drop p).getD n 0 = ch.getD (p + n) 0 := by
      rw [List.getD_eq_getElem?_getD, List.getD_eq_getElem?_getD, List.getElem?_drop]
    rw [e]
    have e2 : p + (n + 1) = p + n + 1 := rfl
    rw [e2] at h3 ⊢
    omega
theorem walk_gap {k hs d most : Nat} {c : List (List Int)} {ch : List Nat} (h : Walk k hs c ch) (hw : win d most ch) : gapOf c d ≤ most := gapOf_le.2 fun p q h1 h2 h3 => by
  obtain ⟨n, rfl⟩ : ∃ n, q = p + n := ⟨q - p, by omega⟩
  refine Nat.le_trans (walk_lk h h2) (Nat.le_trans ?_ (hw p))
  have e : (ch.drop p).take n = ((ch.drop p).take d).take n := by
    rw [List.take_take]
    congr 1
    omega
  rw [e]
  exact sum_take_le ..
theorem walk_crs {k hs : Nat} {c : List (List Int)} {ch : List Nat} (h : Walk k hs c ch) (hk : 1 ≤ k ∧ k ≤ 24) (hc : ch.length ≤ 200) (h24 : hs ≤ 24) : Crs k c :=
  ⟨by have := h.len; omega, fun l hl => (h.lot l hl).lot, hk, fun l hl x hx => by have := mem_rl.1 ((h.lot l hl).sub x hx); omega⟩
end K78

namespace K78
open PySem PySem.Spec PyProof.Rows L2 Hl Vl
theorem cat_at {c : List (List Int)} {l : List Int} {i : Nat} (h : i < c.length) : cAt (c ++ [l]) i = cAt c i := by
  unfold cAt
  rw [List.getD_eq_getElem?_getD, List.getD_eq_getElem?_getD, List.getElem?_append_left h]
theorem cat_last {c : List (List Int)} {l : List Int} : cAt (c ++ [l]) c.length = l := by
  unfold cAt
  rw [List.getD_eq_getElem?_getD]
  simp
theorem Walk.app {k hs a : Nat} {c : List (List Int)} {ch : List Nat} {lot nw : List Int} (h : Walk k hs c ch) (hl : cAt c ch.length = lot) (hn : LotIn k (rl hs) nw) (ha : (woB nw lot).length ≤ a) : Walk k hs (c ++ [nw]) (ch ++ [a]) := by
  have hc := h.len
  refine ⟨by simp [hc], fun l hl => ?_, fun i hi => ?_⟩
  · rcases List.mem_append.1 hl with z | z
    · exact h.lot l z
    · rw [List.mem_singleton] at z; rw [z]; exact hn
  · rw [List.length_append, List.length_singleton] at hi
    unfold lk
    by_cases e : i < ch.length
    · rw [cat_at (by omega), cat_at (by omega)]
      have := h.st i e
      rw [List.getD_eq_getElem?_getD, List.getElem?_append_left e, ← List.getD_eq_getElem?_getD]
      exact this
    · have e2 : i = ch.length := by omega
      subst e2
      rw [cat_at (i := ch.length) (by omega), hl]
      have e3 : cAt (c ++ [nw]) (ch.length + 1) = nw := by rw [← hc]; exact cat_last
      rw [e3, List.getD_eq_getElem?_getD]
      simpa using ha
theorem sum_cast (l : List Nat) : (l.map fun n => ((n : Nat) : Int)).sum = ((l.sum : Nat) : Int) := by
  induction l with
  | nil => rfl
  | cons x l ih => rw [List.map_cons, List.sum_cons, List.sum_cons, ih]; omega
abbrev nD (l : List Nat) : List D := l.map fun n => D.int ((n : Nat) : Int)
theorem nD_int (l : List Nat) : nD l = (l.map fun n => ((n : Nat) : Int)).map D.int := by rw [List.map_map]; rfl
def W__law_slow_L1_R2 : WS := (wSeq (wSet (wCB gTuple (wCons (wOf (wFz (wCBF fSortedP (wCons (wOf (wOp gAdd (wOf (wSl3 (wOf (wCall W__law_mixed [] (wCons (wSl 0) (wCons (wSl 6) wNil)))) (wPS (wVar 12)) wPN)) (wOf (wSl3 (wOf (wCall W__law_mixed [] (wCons (wSl 0) (wCons (wSl 11) wNil)))) wPN (wPS (wVar 12)))))) wNil)))) wNil)) (gV 6)) (wSeq (wDrop (wApp 7 (wVar 12))) (wDrop (wApp 8 (wVar 6)))))
def W__law_slow_L1_R1 : WS := (wSeq (wSet (wFz (wLc (wRg1 (wCons (wSl 4) wNil)) (gV 13) (wTst (wOp (gInP true) (wSl 13) (wSl 6))) (wVar 13) [13])) (gV 11)) (wSeq (wSet (wIfE (wTst (wOp gEq (wOf (wCall W__law_draw [] (wCons (wSl 0) (wCons (wOf (wC (.int 2))) wNil)))) (wOf (wC (.int 0))))) (wCB gMin (wCons (wSl 10) (wCons (wOf (wCB gLen (wCons (wSl 11) wNil))) (wCons (wSl 1) wNil)))) (wCB gMin (wCons (wOf (wCall W__law_draw [] (wCons (wSl 0) (wCons (wOf (wOp gAdd (wOf (wCB gMax (wCons (wOf (wC (.int 0))) (wCons (wSl 10) wNil)))) (wOf (wC (.int 1))))) wNil)))) (wCons (wOf (wCB gLen (wCons (wSl 11) wNil))) (wCons (wSl 1) wNil))))) (gV 12)) W__law_slow_L1_R2))
theorem W__law_slow_L1_eq : W__law_slow_L1 =  (wSeq (wSet (wOp gSub (wSl 2) (wOf (wCB gSum (wCons (wOf (wIfE (wTst (wOp gGt (wSl 3) (wOf (wC (.int 1))))) (wSl3 (wSl 7) (wPS (wOp gSub (wOf (wC (.int 1))) (wSl 3))) wPN) (wFz (wLst wNil)))) wNil)))) (gV 10)) W__law_slow_L1_R1) := rfl
theorem slow_loop {D' : EV} {k hs most d : Nat} {c5 : Cell} (hk : 1 ≤ k ∧ k ≤ hs ∧ hs ≤ 24) (hd : 1 ≤ d) (hmost : most ≤ 1000) : ∀ (n : Nat) {lo : Int} {lot : List Int} {c : List (List Int)} {ch : List Nat} {c9 c10 c11 c12 : Cell}, ch.length + n ≤ 200 → Walk k hs c ch → win d most ch → cAt c ch.length = lot →
    (∀ (c' : List (List Int)) (ch' : List Nat) (d6 d7 d9 d10 d11 d12 : Cell), ch'.length = ch.length + n → Walk k hs c' ch' → win d most ch' → D'.nx [.val .hnd, .val (.int k), .val (.int most), .val (.int d), .val (.int hs), c5, d6, d7, .own (c'.map tI), d9, d10, d11, d12, .no]) →
    forV (gV 9) W__law_slow_L1 (rgD lo n) D' [.val .hnd, .val (.int k), .val (.int most), .val (.int d), .val (.int hs), c5, .val (tI lot), .own (nD ch), .own (c.map tI), c9, c10, c11, c12, .no]
  | 0, lo, lot, c, ch, c9, c10, c11, c12, h1, hw, hv, hl, h => h c ch _ _ _ _ _ _ rfl hw hv
  | n + 1, lo, lot, c, ch, c9, c10, c11, c12, h1, hw, hv, hl, h => by
    have hcl := hw.len
    have hlot : LotIn k (rl hs) lot := by
      refine hw.lot _ ?_
      rw [← hl]
      unfold cAt
      rw [List.getD_eq_getElem?_getD, List.getElem?_eq_getElem (by omega : ch.length < c.length)]
      exact List.getElem_mem _
    have hll := hlot.len
    have hsum := win_last hv
    rw [rgD_succ, for_cons]
    generalize hF : forV (gV 9) W__law_slow_L1 (rgD (lo + 1) n) D' = F
    -- the room
    have hcut : Vl.cutD (nD ch) (some (1 - (d : Int))) none = nD (ch.drop (ch.length - (d - 1))) ∨ d = 1 := by
      by_cases h1 : d = 1
      · exact .inr h1
      · refine .inl ?_
        unfold Vl.cutD HT.sIx
        have h2 : (1 - (d : Int)) < 0 := by omega
        simp [h2, nD]
        have e : (1 - (d : Int) + (ch.length : Int)).toNat = ch.length - (d - 1) := by omega
        rw [e, List.take_of_length_le (by simp)]
    generalize hrm : ch.drop (ch.length - (d - 1)) = dr at *
    generalize hsm : dr.sum = sm at *
    have hstep : ∀ (a : Nat) (c9 c10 c12 : Cell), sm + a ≤ most → a ≤ (woB (rl hs) lot).length → a ≤ k → ∀ l1 l2 : List Int, l1.Perm lot → l2.Perm (woB (rl hs) lot) →
        F [.val .hnd, .val (.int k), .val (.int most), .val (.int d), .val (.int hs), c5, .val (tI (sortI (l1.drop a ++ l2.take a))), .own (nD (ch ++ [a])), .own ((c ++ [sortI (l1.drop a ++ l2.take a)]).map tI), c9, c10, .val (lI (woB (rl hs) lot)), c12, .no] := by
      intro a c9 c10 c12 g1 g2 g3 l1 l2 p1 p2
      have q1 := p1.length_eq
      have q2 := p2.length_eq
      have n1 : l1.Nodup := p1.nodup_iff.2 (lt_nd hlot.lt)
      have n2 : l2.Nodup := p2.nodup_iff.2 (nd_woB (rl_nd _))
      have hnew : LotIn k (rl hs) (sortI (l1.drop a ++ l2.take a)) := by
        refine ⟨?_, sort_lt (nd_app (n1.sublist (List.drop_sublist ..)) (n2.sublist (List.take_sublist ..)) fun x h1 h2 => ?_), fun x hx => ?_⟩
        · rw [len_sortI, List.length_append, List.length_drop, List.length_take]; omega
        · exact (mem_woB.1 (p2.mem_iff.1 (List.mem_of_mem_take h2))).2 (p1.mem_iff.1 (List.mem_of_mem_drop h1))
        · rcases List.mem_append.1 (mem_sortI.1 hx) with z | z
          · exact hlot.sub x (p1.mem_iff.1 (List.mem_of_mem_drop z))
          · exact (mem_woB.1 (p2.mem_iff.1 (List.mem_of_mem_take z))).1
      have hnl : (woB (sortI (l1.drop a ++ l2.take a)) lot).length ≤ a := by
        refine Nat.le_trans (len_le (nd_woB (lt_nd hnew.lt)) (b := l2.take a) fun x hx => ?_) (by rw [List.length_take]; omega)
        have := mem_woB.1 hx
        rcases List.mem_append.1 (mem_sortI.1 this.1) with z | z
        · exact absurd (p1.mem_iff.1 (List.mem_of_mem_drop z)) this.2
        · exact z
      rw [← hF]
      refine slow_loop hk hd hmost n (by simp; omega) (hw.app hl hnew hnl) (win_app hd hv (by rw [hrm, hsm]; exact g1)) ?_ fun c' ch' d6 d7 d9 d10 d11 d12 g1 g2 g3 => h c' ch' d6 d7 d9 d10 d11 d12 (by rw [g1]; simp; omega) g2 g3
      rw [List.length_append, List.length_singleton, ← hcl]
      exact cat_last
    have hol : (woB (rl hs) lot).length ≤ 24 := Nat.le_trans len_woB (by rw [rl_len]; omega)
    -- behind the change
    have hR2 : ∀ (a : Nat) (r : Int), sm + a ≤ most → a ≤ (woB (rl hs) lot).length → a ≤ k → W__law_slow_L1_R2 { D' with nx := F, ct := F, bk := D'.nx } [.val .hnd, .val (.int k), .val (.int most), .val (.int d), .val (.int hs), c5, .val (tI lot), .own (nD ch), .own (c.map tI), .val (.int lo), .val (.int r), .val (lI (woB (rl hs) lot)), .val (.int a), .no] := by
      intro a r g1 g2 g3
      simp [W__law_slow_L1_R2]
      refine mixed_ok (.inl rfl) (by omega) fun l1 p1 => ?_
      simp
      refine mixed_ok (.inr rfl) (by omega) fun l2 p2 => ?_
      simp [cut_take, cut_drop, ← List.map_take, ← List.map_drop, ← List.map_append]
      have q1 := p1.length_eq
      have q2 := p2.length_eq
      refine ⟨le_sz (by omega), lt_sz (by omega), lt_sz (by omega), ?_⟩
      have := hstep a (.val (.int lo)) (.val (.int r)) (.val (.int a)) g1 g2 g3 l1 l2 p1 p2
      simpa [nD] using this
    have hR1 : ∀ c11 c12, W__law_slow_L1_R1 { D' with nx := F, ct := F, bk := D'.nx } [.val .hnd, .val (.int k), .val (.int most), .val (.int d), .val (.int hs), c5, .val (tI lot), .own (nD ch), .own (c.map tI), .val (.int lo), .val (.int ((most - sm : Nat) : Int)), c11, c12, .no] := by
      intro c11 c12
      simp [W__law_slow_L1_R1]
      refine ⟨by omega, ?_⟩
      rw [rgD_rl]
      refine lc_v D.int (fun x => !decide (x ∈ lot)) D.int (rl hs) [] (fun x hx A B k1 k2 => ?_) rfl (by simp [rl_len]; exact le_sz (by omega)) ?_
      · simp at k1 k2 ⊢
        exact ⟨k1, k2⟩
      rw [others_eq, List.nil_append]
      simp
      intro r r0 r1
      refine ⟨fun _ => ?_, fun _ => ⟨by omega, fun r' r0' r1' => ?_⟩⟩
      · have e : min ((most - sm : Nat) : Int) (min ((woB (rl hs) lot).length : Int) (k : Int)) = ((min (most - sm) (min (woB (rl hs) lot).length k) : Nat) : Int) := by omega
        rw [e]
        exact hR2 _ _ (by omega) (by omega) (by omega)
      · obtain ⟨x, rfl⟩ : ∃ x : Nat, r' = x := ⟨r'.toNat, by omega⟩
        have e : min (x : Int) (min ((woB (rl hs) lot).length : Int) (k : Int)) = ((min x (min (woB (rl hs) lot).length k) : Nat) : Int) := by omega
        rw [e]
        exact hR2 _ _ (by omega) (by omega) (by omega)
    have hd1 : d ≤ 1 → sm = 0 := fun h => by
      have e : ch.length - (d - 1) = ch.length := by omega
      rw [e, List.drop_length] at hrm
      subst hrm
      exact hsm.symm
    have hroom : ((most : Int) - ((sm : Nat) : Int)) = ((most - sm : Nat) : Int) := by omega
    have hs2 : (dr.map fun n => ((n : Nat) : Int)).sum = ((sm : Nat) : Int) := by rw [sum_cast, hsm]
    have hs3 : (dr.map (Nat.cast : Nat → Int)).sum = ((sm : Nat) : Int) := hs2
    have ei : intsO [] = some [] := rfl
    rw [W__law_slow_L1_eq]
    rcases hcut with hc | hc
    · simp [hc, ei]
      refine ⟨fun _ => ?_, fun h => ?_⟩
      · rw [hs3, hroom]
        exact hR1 _ _
      · have e : (most : Int) = ((most - sm : Nat) : Int) := by have := hd1 (by omega); omega
        rw [e]
        have := hR1 c11 c12
        rw [← e] at this ⊢
        exact this
    · subst hc
      simp [ei]
      have e : (most : Int) = ((most - sm : Nat) : Int) := by have := hd1 (by omega); omega
      have := hR1 c11 c12
      rw [← e] at this
      exact this
theorem rl_lt (n : Nat) : (rl n).Pairwise (· < ·) := by
  rw [rl, List.pairwise_map]
  exact List.Pairwise.imp (fun {a b} h => by omega) (List.pairwise_lt_range (n := n))
theorem slow_ok {k hs most d w : Nat} {Q : D → Prop} (hk : 1 ≤ k ∧ k ≤ hs ∧ hs ≤ 24) (hd : 1 ≤ d) (hmost : most ≤ 1000) (hw : w ≤ 200) (h : ∀ c : List (List Int), Crs k c → c.length = w + 1 → gapOf c d ≤ most → (∀ l ∈ c, ∀ x ∈ l, x < 24) → Q (cD c)) : W__law_slow [.hnd, .int k, .int most, .int d, .int hs, .int w] Q := by
  have z1 : (1 : Nat) ≤ sizeLine := le_sz (by omega)
  simp [W__law_slow, z1, -forV]
  refine ⟨⟨by omega, by omega⟩, le_sz (by omega), by omega, ?_⟩
  rw [rgD_rl k]
  have hr : LotIn k (rl hs) (rl k) := ⟨rl_len, rl_lt k, fun x hx => by have := mem_rl.1 hx; exact mem_rl.2 ⟨by omega, by omega⟩⟩
  refine slow_loop (ch := []) (c := [rl k]) hk hd hmost w (by simp; omega) ⟨rfl, fun l hl => by rw [List.mem_singleton] at hl; rw [hl]; exact hr, fun i hi => by simp at hi⟩ (fun i => by simp) rfl fun c' ch' d6 d7 d9 d10 d11 d12 g1 g2 g3 => ?_
  have hcl := g2.len
  simp at g1
  simp
  exact h c' (walk_crs g2 (by omega) (by omega) (by omega)) (by omega) (walk_gap g2 g3) fun l hl x hx => by have := mem_rl.1 ((g2.lot l hl).sub x hx); omega
end K78

namespace K78
open PySem PySem.Spec PyProof.Rows L2 Hl Vl
@[simp] theorem numFs_k {k f d m w1 w2 g : Int} : (numFs k f d m w1 w2 g).lookup (Str.ofString "k") = some (.int k) := by rfl
@[simp] theorem numFs_f {k f d m w1 w2 g : Int} : (numFs k f d m w1 w2 g).lookup (Str.ofString "f") = some (.int f) := by rfl
@[simp] theorem numFs_w1 {k f d m w1 w2 g : Int} : (numFs k f d m w1 w2 g).lookup (Str.ofString "w1") = some (.int w1) := by rfl
@[simp] theorem numFs_w2 {k f d m w1 w2 g : Int} : (numFs k f d m w1 w2 g).lookup (Str.ofString "w2") = some (.int w2) := by rfl
section
variable {k f d m w1 w2 g s : Int} {Q : D → Prop}
abbrev sm (i : Int) : Prop := i.natAbs < 2 ^ 60
@[simp] theorem near_iff (h1 : sm w1) : W_near_slack [numO k f d m w1 w2 g, .int s] Q ↔ Q (.int (2 * w1 - k - s - f)) := by
  have : CMulW 2 w1 := mul_small (by omega) (by omega)
  simp [W_near_slack, this]
@[simp] theorem far_iff : W_far_slack [numO k f d m w1 w2 g, .int s] Q ↔ Q (.int (g + w2 - k - s - f)) := by
  simp [W_far_slack]
@[simp] theorem mend_iff : W_mend_slack [numO k f d m w1 w2 g, .int s] Q ↔ Q (.int (g + w2 - k - s - f - m)) := by
  simp [W_mend_slack]
theorem single_iff (h1 : sm w1) : W_is_single [numO k f d m w1 w2 g, .int s] Q ↔ Q (.bl (decide (0 < 2 * w1 - k - s - f) && (decide (s = 0) || decide (0 < g + w2 - k - s - f)))) := by
  simp [W_is_single, h1]
  by_cases a : f < 2 * w1 - k - s
  · have a' : ¬ 2 * w1 - k - s ≤ f := by omega
    by_cases h0 : s = 0
    · subst h0
      have a2 : f < 2 * w1 - k := by omega
      have a3 : ¬ 2 * w1 - k ≤ f := by omega
      simp [a2, a3]
    · simp [a, a', h0]
  · have a' : 2 * w1 - k - s ≤ f := by omega
    simp [a, a']
theorem lasting_iff : W_is_lasting [numO k f d m w1 w2 g, .int s] Q ↔ Q (.bl (if s = 0 then decide (f + m ≤ w2) else decide (0 ≤ g + w2 - k - s - f - m))) := by
  simp [W_is_lasting]
  by_cases h0 : s = 0 <;> simp [h0]
theorem plain_slack_iff (h1 : sm f) : W_plain_slack [numO k f d m w1 w2 g, .int s] Q ↔ Q (.int (g + w2 - k - s - 2 * f - m)) := by
  have : CMulW 2 f := mul_small (by omega) (by omega)
  simp [W_plain_slack, this]
theorem plain_lasts_iff (h1 : sm f) : W_plain_lasts [numO k f d m w1 w2 g, .int s] Q ↔ Q (.bl (if s = 0 then decide (2 * f + m ≤ w2) else decide (0 ≤ g + w2 - k - s - 2 * f - m))) := by
  have : CMulW 2 f := mul_small (by omega) (by omega)
  simp [W_plain_lasts, this, plain_slack_iff h1]
  by_cases h0 : s = 0 <;> simp [h0]
theorem sees_iff {r : Int} : W_sees [numO k f d m w1 w2 g, .int s, .int r] Q ↔ Q (.tup [.bl (decide (k + s + f + m ≤ r + w2)), .bl (decide (k + s + f + m ≤ r + w2) && (decide (s = 0) || decide (k + s + f < r + g)))]) := by
  have z2 : (2 : Nat) ≤ sizeLine := le_sz (by omega)
  simp [W_sees, W_bound_of, z2]
  by_cases a : k + s + f + m ≤ r + w2
  · have a' : ¬ r + w2 < k + s + f + m := by omega
    by_cases h0 : s = 0
    · subst h0
      have a2 : k + f + m ≤ r + w2 := by omega
      have a3 : ¬ r + w2 < k + f + m := by omega
      simp [a2, a3]
    · simp [a, a', h0]
  · have a' : r + w2 < k + s + f + m := by omega
    simp [a, a']
theorem plain_reads_iff {r : Int} (h1 : sm f) : W_plain_reads [numO k f d m w1 w2 g, .int s, .int r] Q ↔ Q (.tup [.bl (decide (k + s + 2 * f + m ≤ r + w2)), .bl (decide (k + s + 2 * f + m ≤ r + w2) && (decide (s = 0) || decide (k + s + f < r + g)))]) := by
  have : CMulW 2 f := mul_small (by omega) (by omega)
  have z2 : (2 : Nat) ≤ sizeLine := le_sz (by omega)
  simp [W_plain_reads, this, z2]
  by_cases a : k + s + 2 * f + m ≤ r + w2
  · have a' : ¬ r + w2 < k + s + 2 * f + m := by omega
    by_cases h0 : s = 0
    · subst h0
      have a2 : k + 2 * f + m ≤ r + w2 := by omega
      have a3 : ¬ r + w2 < k + 2 * f + m := by omega
      simp [a2, a3]
    · simp [a, a', h0]
  · have a' : r + w2 < k + s + 2 * f + m := by omega
    simp [a, a']
def lastP (f m w2 g k s : Int) : Prop := if s = 0 then f + m ≤ w2 else 0 ≤ g + w2 - k - s - f - m
instance : Decidable (lastP f m w2 g k s) := by unfold lastP; infer_instance
def kindsL (a b c : Bool) : List D := (if a then [D.str "far"] else []) ++ ((if b then [D.str "gone"] else []) ++ (if c then [D.str "near"] else []))
theorem kinds_ok (h1 : sm w1) (hs : 0 ≤ s) (h : Q (.tup (kindsL (decide (0 < s) && decide (g + w2 - k - s - f ≤ 0)) (!decide (lastP f m w2 g k s)) (decide (2 * w1 - k - s - f ≤ 0))))) : W_kinds_of [numO k f d m w1 w2 g, .int s] Q := by
  have z0 : (0 : Nat) < sizeLine := lt_sz (by omega)
  have z1 : (1 : Nat) < sizeLine := lt_sz (by omega)
  have z2 : (2 : Nat) < sizeLine := lt_sz (by omega)
  simp [W_kinds_of, h1, lasting_iff, z0, z1, z2]
  have e : ∀ (a b c : Bool), ((0 < s ∧ g + w2 - k - s - f ≤ 0) ↔ a = true) → ((if s = 0 then f + m ≤ w2 else 0 ≤ g + w2 - k - s - f - m) ↔ b = false) → ((2 * w1 - k - s - f ≤ 0) ↔ c = true) → Q (.tup (kindsL a b c)) := fun a b c h1 h2 h3 => by
    have e1 : (decide (0 < s) && decide (g + w2 - k - s - f ≤ 0)) = a := by
      rw [← Bool.decide_and]
      cases a
      · simpa using h1
      · simpa using h1
    have e2 : (!decide (lastP f m w2 g k s)) = b := by
      cases b
      · have : lastP f m w2 g k s := h2.2 rfl
        rw [decide_eq_true this]; rfl
      · have : ¬ lastP f m w2 g k s := fun z => by have := h2.1 z; cases this
        rw [decide_eq_false this]; rfl
    have e3 : decide (2 * w1 - k - s - f ≤ 0) = c := by
      cases c
      · simpa using h3
      · simpa using h3
    rw [e1, e2, e3] at h
    exact h
  by_cases h0 : s = 0
  · subst h0
    simp only [if_pos] at e
    simp
    exact ⟨fun b => ⟨fun c => e false true true (by simp) (by simp; omega) (by simp; omega), fun c => e false true false (by simp) (by simp; omega) (by simp; omega)⟩,
      fun b => ⟨fun c => e false false true (by simp) (by simp; omega) (by simp; omega), fun c => e false false false (by simp) (by simp; omega) (by simp; omega)⟩⟩
  · have hp : 0 < s := by omega
    have hn : ¬ s ≤ 0 := by omega
    simp only [if_neg h0] at e
    simp [h0, hp, hn]
    refine ⟨fun a => ⟨fun b => ⟨fun c => e true true true ?_ ?_ ?_, fun c => e true true false ?_ ?_ ?_⟩, fun b => ⟨fun c => e true false true ?_ ?_ ?_, fun c => e true false false ?_ ?_ ?_⟩⟩,
      fun a => ⟨fun b => ⟨fun c => e false true true ?_ ?_ ?_, fun c => e false true false ?_ ?_ ?_⟩, fun b => ⟨fun c => e false false true ?_ ?_ ?_, fun c => e false false false ?_ ?_ ?_⟩⟩⟩
    all_goals (simp; omega)
theorem can_end_iff : W_can_end [numO k f d m w1 w2 g] Q ↔ Q (.bl (decide (max (max w1 w2) g ≤ k - f))) := by
  simp [W_can_end]
theorem least_asked_ok : True := trivial
end
end K78

namespace K78
open PySem PySem.Spec PyProof.Rows L2 Hl Vl
section
variable {k f d m w1 w2 g s : Int} {Q : D → Prop}
def wordsD (b s d : Int) (last : Bool) : D := if b ≤ 0 then .int 0 else if b ≤ s then .int 1 else if last then .non else .int (((b + s - 1) / s - 1) * d + 1)
structure Sml (k f d m w1 w2 g s : Int) : Prop where
  hk : 1 ≤ k ∧ k ≤ 12
  hf : 0 ≤ f ∧ f ≤ k
  hd : 1 ≤ d ∧ d ≤ 200
  hm : 1 ≤ m ∧ m ≤ 24
  hw : 1 ≤ w2 ∧ w2 ≤ k
  hs : 0 ≤ s ∧ s ≤ 24
theorem div_le {a b : Int} (ha : 0 ≤ a) (hb : 0 < b) : 0 ≤ a / b ∧ a / b ≤ a := ⟨Int.ediv_nonneg ha (by omega), Int.ediv_le_self _ ha⟩
theorem gone_ok (h : Sml k f d m w1 w2 g s) (q : Q (wordsD (w2 - f - m + 1) s d (decide (if s = 0 then f + m ≤ w2 else 0 ≤ g + w2 - k - s - f - m)))) : W_words_to_gone [numO k f d m w1 w2 g, .int s] Q := by
  have hk := h.hk
  have hf := h.hf
  have hd := h.hd
  have hm := h.hm
  have hw := h.hw
  have hs := h.hs
  unfold wordsD at q
  simp [W_words_to_gone, W_keepers_beyond, lasting_iff, W_times_over]
  refine ⟨fun a => by rwa [if_pos a] at q, fun a => ⟨fun b => by rwa [if_neg (by omega), if_pos b] at q, fun b => ?_⟩⟩
  rw [if_neg (by omega), if_neg (by omega)] at q
  by_cases h0 : s = 0
  · simp only [if_pos h0] at q ⊢
    refine ⟨fun c => ?_, fun c => by omega⟩
    rwa [decide_eq_true c, if_pos rfl] at q
  · simp only [if_neg h0] at q ⊢
    refine ⟨fun c => ?_, fun c => ?_⟩
    · rwa [decide_eq_true (by omega), if_pos rfl] at q
    · rw [decide_eq_false (by omega), if_neg Bool.false_ne_true] at q
      have hdv := div_le (a := w2 - f - m + 1 + s - 1) (b := s) (by omega) (by omega)
      exact ⟨div_small (by omega) (by omega), mul_small (by omega) (by omega), q⟩
theorem plain_words_ok (h : Sml k f d m w1 w2 g s) (q : Q (wordsD (w2 - 2 * f - m + 1) s d (decide (if s = 0 then 2 * f + m ≤ w2 else 0 ≤ g + w2 - k - s - 2 * f - m)))) : W_plain_words [numO k f d m w1 w2 g, .int s] Q := by
  have hk := h.hk
  have hf := h.hf
  have hd := h.hd
  have hm := h.hm
  have hw := h.hw
  have hs := h.hs
  unfold wordsD at q
  have cm : CMulW 2 f := mul_small (by omega) (by omega)
  simp [W_plain_words, plain_lasts_iff (show sm f by omega), cm]
  refine ⟨fun a => by rwa [if_pos a] at q, fun a => ⟨fun b => by rwa [if_neg (by omega), if_pos b] at q, fun b => ?_⟩⟩
  rw [if_neg (by omega), if_neg (by omega)] at q
  by_cases h0 : s = 0
  · simp only [if_pos h0] at q ⊢
    rw [decide_eq_true (by omega), if_pos rfl] at q
    exact ⟨fun _ => q, fun c => by omega⟩
  · simp only [if_neg h0] at q ⊢
    have hdv := div_le (a := w2 - 2 * f - m + 1 + s - 1) (b := s) (by omega) (by omega)
    refine ⟨fun c => ?_, fun c => ⟨fun z => absurd z h0, fun _ => ?_⟩⟩
    · rwa [decide_eq_true (by omega), if_pos rfl] at q
    · rw [decide_eq_false (by omega), if_neg Bool.false_ne_true] at q
      exact ⟨div_small (by omega) (by omega), mul_small (by omega) (by omega), q⟩
theorem words_eq : wordsD (w2 - 2 * f - m + 1) s d (decide (if s = 0 then 2 * f + m ≤ w2 else 0 ≤ g + w2 - k - s - 2 * f - m)) = wordsD (w2 - f - (m + f) + 1) s d (decide (if s = 0 then f + (m + f) ≤ w2 else 0 ≤ g + w2 - k - s - f - (m + f))) := by
  have e1 : w2 - 2 * f - m + 1 = w2 - f - (m + f) + 1 := by omega
  have e2 : decide (if s = 0 then 2 * f + m ≤ w2 else 0 ≤ g + w2 - k - s - 2 * f - m) = decide (if s = 0 then f + (m + f) ≤ w2 else 0 ≤ g + w2 - k - s - f - (m + f)) := by
    refine decide_eq_decide.2 ?_
    by_cases h0 : s = 0
    · simp only [if_pos h0]; omega
    · simp only [if_neg h0]; omega
  rw [e1, e2]
end
theorem like_non {n : Nat} {Q : D → Prop} (h : Q (.bl true)) : W__law_like_at (n + 1) [.non, .non] Q := by
  simp [W__law_like_at, W__law_like_of]
  exact h
theorem like_words {n : Nat} {b s d : Int} {l : Bool} {Q : D → Prop} (h : Q (.bl true)) : W__law_like_at (n + 1) [wordsD b s d l, wordsD b s d l] Q := by
  unfold wordsD
  split
  · exact like_int h
  · split
    · exact like_int h
    · split
      · exact like_non h
      · exact like_int h
theorem like_str {n : Nat} {z : Str} {Q : D → Prop} (hz : PyData.strOk z = true) (h : Q (.bl true)) : W__law_like_at (n + 1) [.str z, .str z] Q := by
  simp [W__law_like_at, W__law_like_of]
  have e : D.eqv (.str z) (.str z) = true := by
    unfold D.eqv
    simp [D.pd, PyData.eqv]
  rw [e]
  exact ⟨hz, h⟩
theorem like_kinds {n : Nat} {a b c : Bool} {Q : D → Prop} (h : Q (.bl true)) : W__law_like_at (n + 2) [.tup (kindsL a b c), .tup (kindsL a b c)] Q := by
  refine like_tup (fun d hd Q hQ => ?_) (by cases a <;> cases b <;> cases c <;> simp [kindsL]) h
  have hz : ∃ z : Str, PyData.strOk z = true ∧ d = .str z := by
    unfold kindsL at hd
    rcases List.mem_append.1 hd with hd | hd
    · split at hd
      · rw [List.mem_singleton] at hd; exact ⟨_, by decide +kernel, hd⟩
      · cases hd
    · rcases List.mem_append.1 hd with hd | hd
      · split at hd
        · rw [List.mem_singleton] at hd; exact ⟨_, by decide +kernel, hd⟩
        · cases hd
      · split at hd
        · rw [List.mem_singleton] at hd; exact ⟨_, by decide +kernel, hd⟩
        · cases hd
  obtain ⟨z, h1, rfl⟩ := hz
  exact like_str h1 hQ
theorem like_bls {n : Nat} {l : List Bool} {Q : D → Prop} (hz : l.length ≤ 100) (h : Q (.bl true)) : W__law_like_at (n + 2) [.tup (l.map D.bl), .tup (l.map D.bl)] Q := by
  refine like_tup (fun d hd Q hQ => ?_) (by simp; omega) h
  obtain ⟨b, _, rfl⟩ := List.mem_map.1 hd
  exact like_bl hQ
end K78

namespace K78
open PySem PySem.Spec PyProof.Rows L2 Hl Vl
def W__law_sums_right_R5 : WS := (wSeq (wFor (wIt (wOf (wFz (wLst (wCons (wOf (wC (.int 1))) (wCons (wOf (wVar 7)) (wCons (wOf (wVar 8)) (wCons (wOf (wVar 2)) wNil)))))))) (gV 14) W__law_sums_right_L1) (wRet (wC (.bl true))))
def W__law_sums_right_R4 : WS := (wSeq (wIf (wAnd (wTst (wOp gLe (wOf (wOp gAdd (wSl 5) (wSl 3))) (wOf (wCB gMin (wCons (wSl 2) (wCons (wOf (wC (.int 6))) wNil)))))) (wNot (wTru (wOf (wCall W__law_like [] (wCons (wOf (wCall W_plain_words [] (wCons (wSl 9) (wCons (wSl 1) wNil)))) (wCons (wOf (wCall W_words_to_gone [] (wCons (wOf (wMake "Numbers" W_Numbers_init [] (wCons (wOf (wVar 2)) (wCons (wOf (wVar 3)) (wCons (wOf (wVar 4)) (wCons (wOf (wOp gAdd (wSl 5) (wSl 3))) (wCons (wOf (wVar 6)) (wCons (wOf (wVar 7)) (wCons (wOf (wVar 8)) wNil))))))))) (wCons (wSl 1) wNil)))) wNil))))))) (wRet (wC (.bl false))) wNext) W__law_sums_right_R5)
def W__law_sums_right_R3 : WS := (wSeq (wSet (wOp gAdd (wOf (wOp gAdd (wOf (wOp gMul (wOf (wFz (wLst (wCons (wOf (wC (.str "far"))) wNil)))) (wOf (wCB gInt (wCons (wOf (wAndV (wOp gGt (wSl 1) (wOf (wC (.int 0)))) (wOp gLt (wSl 10) (wOf (wC (.int 1)))))) wNil))))) (wOf (wOp gMul (wOf (wFz (wLst (wCons (wOf (wC (.str "gone"))) wNil)))) (wOf (wCB gInt (wCons (wOf (wUn gNot (wOp gIx (wSl 12) (wOf (wC (.int 1)))))) wNil))))))) (wOf (wOp gMul (wOf (wFz (wLst (wCons (wOf (wC (.str "near"))) wNil)))) (wOf (wCB gInt (wCons (wOf (wOp gLe (wSl 11) (wOf (wC (.int 0))))) wNil)))))) (gV 13)) (wSeq (wIf (wNot (wTru (wOf (wCall W__law_like [] (wCons (wOf (wCall W_kinds_of [] (wCons (wSl 9) (wCons (wSl 1) wNil)))) (wCons (wOf (wCB gTuple (wCons (wSl 13) wNil))) wNil)))))) (wRet (wC (.bl false))) wNext) W__law_sums_right_R4))
def W__law_sums_right_R2 : WS := (wSeq (wSet (wTup (wCons (wOf (wAndV (wOp gGt (wSl 11) (wOf (wC (.int 0)))) (wOrV (wOp gEq (wSl 1) (wOf (wC (.int 0)))) (wOp gGe (wSl 10) (wOf (wC (.int 1))))))) (wCons (wOf (wIfE (wTst (wOp gGt (wSl 1) (wOf (wC (.int 0))))) (wOp gGe (wSl 10) (wSl 5)) (wOp gGe (wSl 7) (wOf (wOp gAdd (wSl 3) (wSl 5)))))) (wCons (wOf (wIfE (wTst (wOp gGt (wSl 1) (wOf (wC (.int 0))))) (wOp gGe (wSl 10) (wOf (wOp gAdd (wSl 5) (wSl 3)))) (wOp gGe (wSl 7) (wOf (wOp gAdd (wOf (wOp gMul (wOf (wC (.int 2))) (wSl 3))) (wSl 5)))))) wNil)))) (gV 12)) (wSeq (wIf (wNot (wTru (wOf (wCall W__law_like [] (wCons (wOf (wTup (wCons (wOf (wCall W_is_single [] (wCons (wSl 9) (wCons (wSl 1) wNil)))) (wCons (wOf (wCall W_is_lasting [] (wCons (wSl 9) (wCons (wSl 1) wNil)))) (wCons (wOf (wCall W_plain_lasts [] (wCons (wSl 9) (wCons (wSl 1) wNil)))) wNil))))) (wCons (wSl 12) wNil)))))) (wRet (wC (.bl false))) wNext) W__law_sums_right_R3))
def W__law_sums_right_R1 : WS := (wSeq (wSet (wOp gSub (wOf (wOp gSub (wOf (wOp gSub (wOf (wOp gMul (wOf (wC (.int 2))) (wSl 6))) (wSl 2))) (wSl 1))) (wSl 3)) (gV 11)) (wSeq (wIf (wNot (wTru (wOf (wCall W__law_like [] (wCons (wOf (wTup (wCons (wOf (wCall W_near_slack [] (wCons (wSl 9) (wCons (wSl 1) wNil)))) (wCons (wOf (wCall W_far_slack [] (wCons (wSl 9) (wCons (wSl 1) wNil)))) (wCons (wOf (wCall W_mend_slack [] (wCons (wSl 9) (wCons (wSl 1) wNil)))) (wCons (wOf (wCall W_plain_slack [] (wCons (wSl 9) (wCons (wSl 1) wNil)))) wNil)))))) (wCons (wOf (wTup (wCons (wOf (wVar 11)) (wCons (wOf (wVar 10)) (wCons (wOf (wOp gSub (wSl 10) (wSl 5))) (wCons (wOf (wOp gSub (wOf (wOp gSub (wSl 10) (wSl 5))) (wSl 3))) wNil)))))) wNil)))))) (wRet (wC (.bl false))) wNext) W__law_sums_right_R2))
theorem W__law_sums_right_eq : W__law_sums_right = wDef 2 17 (wSeq (wSet (wVar 0) (gTupV 7 (gConsV (gV 2) (gConsV (gV 3) (gConsV (gV 4) (gConsV (gV 5) (gConsV (gV 6) (gConsV (gV 7) (gConsV (gV 8) gNilV))))))))) (wSeq (wPar2 9 10 (wQc (wQv (wMake "Numbers" W_Numbers_init [] (wCons (wOf (wVar 2)) (wCons (wOf (wVar 3)) (wCons (wOf (wVar 4)) (wCons (wOf (wVar 5)) (wCons (wOf (wVar 6)) (wCons (wOf (wVar 7)) (wCons (wOf (wVar 8)) wNil))))))))) (wQc (wQv (wOp gSub (wOf (wOp gSub (wOf (wOp gSub (wOf (wOp gAdd (wSl 8) (wSl 7))) (wSl 2))) (wSl 1))) (wSl 3))) wQn))) W__law_sums_right_R1)) := rfl

theorem Ev.tup3 {e1 e2 e3 : WE} {ρ : Vn} {a b c : D} (h1 : Ev e1 ρ (· = a)) (h2 : Ev e2 ρ (· = b)) (h3 : Ev e3 ρ (· = c)) : Ev (wTup (wCons (wOf e1) (wCons (wOf e2) (wCons (wOf e3) wNil)))) ρ (· = .tup [a, b, c]) := ⟨fun K k =>
  h1.h _ fun a ha => h2.h _ fun b hb => h3.h _ fun c hc => by subst ha hb hc; exact ⟨le_sz (by simp), k _ rfl⟩⟩
section
variable {k f d m w1 w2 g s : Int} {R : D → Prop} {D' : EV} {c0 c12 c13 c14 c15 c16 : Cell}
abbrev stS (k f d m w1 w2 g s : Int) (c0 c12 c13 c14 c15 c16 : Cell) : Vn := [c0, .val (.int s), .val (.int k), .val (.int f), .val (.int d), .val (.int m), .val (.int w1), .val (.int w2), .val (.int g), .val (numO k f d m w1 w2 g), .val (.int (g + w2 - k - s - f)), .val (.int (2 * w1 - k - s - f)), c12, c13, c14, c15, c16]
abbrev cA (k f d m w1 w2 g s : Int) : Bool := decide (0 < 2 * w1 - k - s - f) && (decide (s = 0) || decide (0 < g + w2 - k - s - f))
abbrev cB (k f d m w1 w2 g s : Int) : Bool := decide (if s = 0 then f + m ≤ w2 else 0 ≤ g + w2 - k - s - f - m)
abbrev cC (k f d m w1 w2 g s : Int) : Bool := decide (if s = 0 then 2 * f + m ≤ w2 else 0 ≤ g + w2 - k - s - 2 * f - m)
theorem evA : Ev (wAndV (wOp gGt (wSl 11) (wOf (wC (.int 0)))) (wOrV (wOp gEq (wSl 1) (wOf (wC (.int 0)))) (wOp gGe (wSl 10) (wOf (wC (.int 1)))))) (stS k f d m w1 w2 g s c0 c12 c13 c14 c15 c16) (· = .bl (cA k f d m w1 w2 g s)) := ⟨fun K k0 => by
  have q := k0 _ rfl
  simp
  refine ⟨fun a => ⟨fun h0 => k0 _ (congrArg D.bl ?_), fun h0 => k0 _ (congrArg D.bl ?_)⟩, fun a => k0 _ (congrArg D.bl ?_)⟩
  all_goals
    unfold cA
    rw [Bool.eq_iff_iff]
    simp
    omega⟩
theorem evB (hs : 0 ≤ s) : Ev (wIfE (wTst (wOp gGt (wSl 1) (wOf (wC (.int 0))))) (wOp gGe (wSl 10) (wSl 5)) (wOp gGe (wSl 7) (wOf (wOp gAdd (wSl 3) (wSl 5))))) (stS k f d m w1 w2 g s c0 c12 c13 c14 c15 c16) (· = .bl (cB k f d m w1 w2 g s)) := ⟨fun K k0 => by
  have q := k0 _ rfl
  simp
  refine ⟨fun a => k0 _ (congrArg D.bl (decide_eq_decide.2 ?_)), fun a => k0 _ (congrArg D.bl (decide_eq_decide.2 ?_))⟩
  · rw [if_neg (by omega)]; omega
  · rw [if_pos (by omega)]⟩
theorem evC (hs : 0 ≤ s) (hf : sm f) : Ev (wIfE (wTst (wOp gGt (wSl 1) (wOf (wC (.int 0))))) (wOp gGe (wSl 10) (wOf (wOp gAdd (wSl 5) (wSl 3)))) (wOp gGe (wSl 7) (wOf (wOp gAdd (wOf (wOp gMul (wOf (wC (.int 2))) (wSl 3))) (wSl 5))))) (stS k f d m w1 w2 g s c0 c12 c13 c14 c15 c16) (· = .bl (cC k f d m w1 w2 g s)) := ⟨fun K k0 => by
  have q := k0 _ rfl
  have : CMulW 2 f := mul_small (by omega) (by omega)
  simp [this]
  refine ⟨fun a => k0 _ (congrArg D.bl (decide_eq_decide.2 ?_)), fun a => k0 _ (congrArg D.bl (decide_eq_decide.2 ?_))⟩
  · rw [if_neg (by omega)]; omega
  · rw [if_pos (by omega)]⟩
theorem evF : Ev (wOp gMul (wOf (wFz (wLst (wCons (wOf (wC (.str "far"))) wNil)))) (wOf (wCB gInt (wCons (wOf (wAndV (wOp gGt (wSl 1) (wOf (wC (.int 0)))) (wOp gLt (wSl 10) (wOf (wC (.int 1)))))) wNil)))) (stS k f d m w1 w2 g s c0 c12 c13 c14 c15 c16) (· = .lst (if (decide (0 < s) && decide (g + w2 - k - s - f ≤ 0)) then [D.str "far"] else [])) := ⟨fun K k0 => by
  have q := k0 _ rfl
  have z1 : (1 : Nat) ≤ sizeLine := le_sz (by omega)
  simp [z1]
  refine ⟨fun a => ?_, fun a => k0 _ ?_⟩
  · by_cases b : g + w2 - k - s - f < 1
    · simp only [if_pos b]
      exact ⟨⟨by omega, by omega, by omega⟩, k0 _ (by rw [decide_eq_true a, decide_eq_true (by omega)]; rfl)⟩
    · simp only [if_neg b]
      exact ⟨⟨by omega, by omega, by omega⟩, k0 _ (by rw [decide_eq_true a, decide_eq_false (by omega)]; rfl)⟩
  · rw [decide_eq_false (by omega)]; rfl⟩
theorem evG {A B C : Bool} : Ev (wOp gMul (wOf (wFz (wLst (wCons (wOf (wC (.str "gone"))) wNil)))) (wOf (wCB gInt (wCons (wOf (wUn gNot (wOp gIx (wSl 12) (wOf (wC (.int 1)))))) wNil)))) (stS k f d m w1 w2 g s c0 (.val (.tup [.bl A, .bl B, .bl C])) c13 c14 c15 c16) (· = .lst (if !B then [D.str "gone"] else [])) := ⟨fun K k0 => by
  have q := k0 _ rfl
  have z1 : (1 : Nat) ≤ sizeLine := le_sz (by omega)
  have a1 : atI [D.bl A, D.bl B, D.bl C] 1 = some (.bl B) := rfl
  simp [z1, a1]
  cases B
  · exact ⟨⟨by simp, by simp, by simp; omega⟩, k0 _ rfl⟩
  · exact ⟨⟨by simp, by simp, by simp⟩, k0 _ rfl⟩⟩
theorem evN : Ev (wOp gMul (wOf (wFz (wLst (wCons (wOf (wC (.str "near"))) wNil)))) (wOf (wCB gInt (wCons (wOf (wOp gLe (wSl 11) (wOf (wC (.int 0))))) wNil)))) (stS k f d m w1 w2 g s c0 c12 c13 c14 c15 c16) (· = .lst (if decide (2 * w1 - k - s - f ≤ 0) then [D.str "near"] else [])) := ⟨fun K k0 => by
  have q := k0 _ rfl
  have z1 : (1 : Nat) ≤ sizeLine := le_sz (by omega)
  simp [z1]
  by_cases b : 2 * w1 - k - s - f ≤ 0
  · simp only [if_pos b]
    exact ⟨⟨by omega, by omega, by omega⟩, k0 _ (by rw [decide_eq_true b]; rfl)⟩
  · simp only [if_neg b]
    exact ⟨⟨by omega, by omega, by omega⟩, k0 _ (by rw [decide_eq_false b]; rfl)⟩⟩
end
end K78

namespace K78
open PySem PySem.Spec PyProof.Rows L2 Hl Vl
def W__law_sums_right_L1_R2 : WS := (wSeq (wSet (wTup (wCons (wOf (wOp gGe (wOf (wOp gAdd (wSl 14) (wSl 7))) (wOf (wOp gAdd (wOf (wOp gAdd (wOf (wOp gAdd (wSl 2) (wSl 1))) (wOf (wOp gMul (wOf (wC (.int 2))) (wSl 3))))) (wSl 5))))) (wCons (wOf (wAndV (wOp gGe (wOf (wOp gAdd (wSl 14) (wSl 7))) (wOf (wOp gAdd (wOf (wOp gAdd (wOf (wOp gAdd (wSl 2) (wSl 1))) (wOf (wOp gMul (wOf (wC (.int 2))) (wSl 3))))) (wSl 5)))) (wOrV (wOp gEq (wSl 1) (wOf (wC (.int 0)))) (wOp gGt (wOf (wOp gAdd (wSl 14) (wSl 8))) (wOf (wOp gAdd (wOf (wOp gAdd (wSl 2) (wSl 1))) (wSl 3))))))) wNil))) (gV 16)) (wIf (wAnd (wTru (wOf (wOp gIx (wSl 12) (wOf (wC (.int 2)))))) (wNot (wTru (wOf (wCall W__law_like [] (wCons (wOf (wCall W_plain_reads [] (wCons (wSl 9) (wCons (wSl 1) (wCons (wSl 14) wNil))))) (wCons (wSl 16) wNil))))))) (wRet (wC (.bl false))) wNext))
def W__law_sums_right_L1_R1 : WS := (wSeq (wIf (wAnd (wTru (wOf (wOp gIx (wSl 12) (wOf (wC (.int 0)))))) (wAnd (wTru (wOf (wOp gIx (wSl 12) (wOf (wC (.int 1)))))) (wNot (wTru (wOf (wCall W__law_like [] (wCons (wOf (wCall W_sees [] (wCons (wSl 9) (wCons (wSl 1) (wCons (wSl 14) wNil))))) (wCons (wOf (wTup (wCons (wOf (wVar 15)) (wCons (wOf (wAndV (wVar 15) (wOrV (wOp gEq (wSl 1) (wOf (wC (.int 0)))) (wOp gGt (wOf (wOp gAdd (wSl 14) (wSl 8))) (wOf (wOp gAdd (wOf (wOp gAdd (wSl 2) (wSl 1))) (wSl 3))))))) wNil)))) wNil)))))))) (wRet (wC (.bl false))) wNext) W__law_sums_right_L1_R2)
theorem W__law_sums_right_L1_eq : W__law_sums_right_L1 =  (wSeq (wSet (wOp gGe (wOf (wOp gAdd (wSl 14) (wSl 7))) (wOf (wOp gAdd (wOf (wOp gAdd (wOf (wOp gAdd (wSl 2) (wSl 1))) (wSl 3))) (wSl 5)))) (gV 15)) W__law_sums_right_L1_R1) := rfl
theorem Ev.tup2 {e1 e2 : WE} {ρ : Vn} {a b : D} (h1 : Ev e1 ρ (· = a)) (h2 : Ev e2 ρ (· = b)) : Ev (wTup (wCons (wOf e1) (wCons (wOf e2) wNil))) ρ (· = .tup [a, b]) := ⟨fun K k =>
  h1.h _ fun a ha => h2.h _ fun b hb => by subst ha hb; exact ⟨le_sz (by simp), k _ rfl⟩⟩
theorem seq_set' {D' : EV} {e : WE} {z : WS} {i : Nat} {ρ : Vn} {S : D → Prop} (h : Ev e ρ S) (k : ∀ d, S d → z D' (ρ.set i (.val d))) : wSeq (wSet e (gV i)) z D' ρ := h.h _ fun d hd => k d hd
section
variable {k f d m w1 w2 g s r : Int} {R : D → Prop} {D' : EV} {c0 c13 c15 c16 : Cell} {A B C : Bool}
abbrev seeD (k f m w2 g s r : Int) : D := .tup [.bl (decide (k + s + f + m ≤ r + w2)), .bl (decide (k + s + f + m ≤ r + w2) && (decide (s = 0) || decide (k + s + f < r + g)))]
abbrev plnD (k f m w2 g s r : Int) : D := .tup [.bl (decide (k + s + 2 * f + m ≤ r + w2)), .bl (decide (k + s + 2 * f + m ≤ r + w2) && (decide (s = 0) || decide (k + s + f < r + g)))]
abbrev stR (k f d m w1 w2 g s : Int) (A B C : Bool) (c0 c13 : Cell) (r : Int) (c15 c16 : Cell) : Vn := stS k f d m w1 w2 g s c0 (.val (.tup [.bl A, .bl B, .bl C])) c13 (.val (.int r)) c15 c16
theorem evT1 : Ev (wTup (wCons (wOf (wVar 15)) (wCons (wOf (wAndV (wVar 15) (wOrV (wOp gEq (wSl 1) (wOf (wC (.int 0)))) (wOp gGt (wOf (wOp gAdd (wSl 14) (wSl 8))) (wOf (wOp gAdd (wOf (wOp gAdd (wSl 2) (wSl 1))) (wSl 3))))))) wNil))) (stR k f d m w1 w2 g s A B C c0 c13 r (.val (.bl (decide (k + s + f + m ≤ r + w2)))) c16) (· = seeD k f m w2 g s r) := by
  refine Ev.tup2 (Ev.var rfl rfl) ⟨fun K k0 => ?_⟩
  simp
  refine ⟨fun a => ⟨fun h0 => k0 _ (congrArg D.bl ?_), fun h0 => k0 _ (congrArg D.bl ?_)⟩, fun a => k0 _ (congrArg D.bl ?_)⟩
  all_goals
    rw [Bool.eq_iff_iff]
    simp
    omega
theorem evT2 (hf : sm f) : Ev (wTup (wCons (wOf (wOp gGe (wOf (wOp gAdd (wSl 14) (wSl 7))) (wOf (wOp gAdd (wOf (wOp gAdd (wOf (wOp gAdd (wSl 2) (wSl 1))) (wOf (wOp gMul (wOf (wC (.int 2))) (wSl 3))))) (wSl 5))))) (wCons (wOf (wAndV (wOp gGe (wOf (wOp gAdd (wSl 14) (wSl 7))) (wOf (wOp gAdd (wOf (wOp gAdd (wOf (wOp gAdd (wSl 2) (wSl 1))) (wOf (wOp gMul (wOf (wC (.int 2))) (wSl 3))))) (wSl 5)))) (wOrV (wOp gEq (wSl 1) (wOf (wC (.int 0)))) (wOp gGt (wOf (wOp gAdd (wSl 14) (wSl 8))) (wOf (wOp gAdd (wOf (wOp gAdd (wSl 2) (wSl 1))) (wSl 3))))))) wNil))) (stR k f d m w1 w2 g s A B C c0 c13 r c15 c16) (· = plnD k f m w2 g s r) := by
  have cm : CMulW 2 f := mul_small (by omega) (by omega)
  refine Ev.tup2 ⟨fun K k0 => ?_⟩ ⟨fun K k0 => ?_⟩
  · have q := k0 _ rfl
    simp [cm]
    simpa using q
  simp [cm]
  refine ⟨fun a => ⟨fun h0 => k0 _ (congrArg D.bl ?_), fun h0 => k0 _ (congrArg D.bl ?_)⟩, fun a => k0 _ (congrArg D.bl ?_)⟩
  all_goals
    rw [Bool.eq_iff_iff]
    simp
    omega
theorem like_see {n : Nat} {Q : D → Prop} (h : Q (.bl true)) : W__law_like_at (n + 2) [seeD k f m w2 g s r, seeD k f m w2 g s r] Q := like_bls (l := [_, _]) (by simp) h
theorem like_pln {n : Nat} {Q : D → Prop} (h : Q (.bl true)) : W__law_like_at (n + 2) [plnD k f m w2 g s r, plnD k f m w2 g s r] Q := like_bls (l := [_, _]) (by simp) h
theorem tst1 {K : Bool → Vn → Prop} (h : K false (stR k f d m w1 w2 g s A B C c0 c13 r (.val (.bl (decide (k + s + f + m ≤ r + w2)))) c16)) : (wAnd (wTru (wOf (wOp gIx (wSl 12) (wOf (wC (.int 0)))))) (wAnd (wTru (wOf (wOp gIx (wSl 12) (wOf (wC (.int 1)))))) (wNot (wTru (wOf (wCall W__law_like [] (wCons (wOf (wCall W_sees [] (wCons (wSl 9) (wCons (wSl 1) (wCons (wSl 14) wNil))))) (wCons (wOf (wTup (wCons (wOf (wVar 15)) (wCons (wOf (wAndV (wVar 15) (wOrV (wOp gEq (wSl 1) (wOf (wC (.int 0)))) (wOp gGt (wOf (wOp gAdd (wSl 14) (wSl 8))) (wOf (wOp gAdd (wOf (wOp gAdd (wSl 2) (wSl 1))) (wSl 3))))))) wNil)))) wNil)))))))) (stR k f d m w1 w2 g s A B C c0 c13 r (.val (.bl (decide (k + s + f + m ≤ r + w2)))) c16) K := by
  have a0 : atI [D.bl A, D.bl B, D.bl C] 0 = some (.bl A) := rfl
  have a1 : atI [D.bl A, D.bl B, D.bl C] 1 = some (.bl B) := rfl
  simp [-wTup, a0, a1, sees_iff]
  refine ⟨fun _ => ⟨fun _ => evT1.h _ ?_, fun _ => h⟩, fun _ => h⟩
  rintro _ rfl
  exact like_see (n := 2) h
theorem tst3 {K : Bool → Vn → Prop} (hf : sm f) (h : K false (stR k f d m w1 w2 g s A B C c0 c13 r c15 (.val (plnD k f m w2 g s r)))) : (wAnd (wTru (wOf (wOp gIx (wSl 12) (wOf (wC (.int 2)))))) (wNot (wTru (wOf (wCall W__law_like [] (wCons (wOf (wCall W_plain_reads [] (wCons (wSl 9) (wCons (wSl 1) (wCons (wSl 14) wNil))))) (wCons (wSl 16) wNil))))))) (stR k f d m w1 w2 g s A B C c0 c13 r c15 (.val (plnD k f m w2 g s r))) K := by
  have a2 : atI [D.bl A, D.bl B, D.bl C] 2 = some (.bl C) := rfl
  simp [a2, plain_reads_iff hf]
  exact ⟨fun _ => like_pln (n := 2) h, fun _ => h⟩
theorem sums_step {rest : List D} (hf : sm f) (h : ∀ d14 d15 d16, forV (gV 14) W__law_sums_right_L1 rest D' (stS k f d m w1 w2 g s c0 (.val (.tup [.bl A, .bl B, .bl C])) c13 d14 d15 d16)) {c14 : Cell} :
    forV (gV 14) W__law_sums_right_L1 (.int r :: rest) D' (stS k f d m w1 w2 g s c0 (.val (.tup [.bl A, .bl B, .bl C])) c13 c14 c15 c16) := by
  rw [for_cons]
  generalize hF : forV (gV 14) W__law_sums_right_L1 rest D' = F at h
  rw [W__law_sums_right_L1_eq]
  have h2 : ∀ c15 c16, W__law_sums_right_L1_R2 { D' with nx := F, ct := F, bk := D'.nx } (stR k f d m w1 w2 g s A B C c0 c13 r c15 c16) := fun c15 c16 => by
    unfold W__law_sums_right_L1_R2
    refine seq_set' (evT2 hf) ?_
    rintro _ rfl
    show wAnd _ _ _ _
    refine tst3 hf ?_
    exact ⟨fun z => (by cases z), fun _ => h _ _ _⟩
  have h1 : ∀ c16, W__law_sums_right_L1_R1 { D' with nx := F, ct := F, bk := D'.nx } (stR k f d m w1 w2 g s A B C c0 c13 r (.val (.bl (decide (k + s + f + m ≤ r + w2)))) c16) := fun c16 => by
    unfold W__law_sums_right_L1_R1
    show wAnd _ _ _ _
    refine tst1 ?_
    exact ⟨fun z => (by cases z), fun _ => h2 _ _⟩
  have := h1 c16
  simp
  exact this
abbrev stE (k f d m w1 w2 g s : Int) (c0 c12 c13 : Cell) : Vn := stS k f d m w1 w2 g s c0 c12 c13 .no .no .no
end
end K78

namespace K78
open PySem PySem.Spec PyProof.Rows L2 Hl Vl
section
variable {k f d m w1 w2 g s r : Int} {R : D → Prop} {D' : EV} {c0 c12 c13 c15 c16 : Cell} {A B C : Bool}
theorem tst8 (hN : Sml k f d m w1 w2 g s) (hm : m ≤ 6) (hw1 : 1 ≤ w1 ∧ w1 ≤ k) (hg : 1 ≤ g ∧ g ≤ k) (K : Bool → Vn → Prop) (h : K false (stE k f d m w1 w2 g s c0 c12 c13)) : (wAnd (wTst (wOp gLe (wOf (wOp gAdd (wSl 5) (wSl 3))) (wOf (wCB gMin (wCons (wSl 2) (wCons (wOf (wC (.int 6))) wNil)))))) (wNot (wTru (wOf (wCall W__law_like [] (wCons (wOf (wCall W_plain_words [] (wCons (wSl 9) (wCons (wSl 1) wNil)))) (wCons (wOf (wCall W_words_to_gone [] (wCons (wOf (wMake "Numbers" W_Numbers_init [] (wCons (wOf (wVar 2)) (wCons (wOf (wVar 3)) (wCons (wOf (wVar 4)) (wCons (wOf (wOp gAdd (wSl 5) (wSl 3))) (wCons (wOf (wVar 6)) (wCons (wOf (wVar 7)) (wCons (wOf (wVar 8)) wNil))))))))) (wCons (wSl 1) wNil)))) wNil))))))) (stE k f d m w1 w2 g s c0 c12 c13) K := by
  have hk := hN.hk
  have hf := hN.hf
  have hd := hN.hd
  have hm1 := hN.hm
  have hw := hN.hw
  have hs := hN.hs
  simp
  refine ⟨fun hle => ?_, fun _ => h⟩
  refine plain_words_ok hN ?_
  refine numbers_ok hk hf hd ⟨by omega, by omega, by omega⟩ hw1 hw hg ?_
  refine gone_ok ⟨hk, hf, hd, by omega, hw, hs⟩ ?_
  rw [words_eq]
  exact like_words (n := 3) h
theorem tst7 (hN : Sml k f d m w1 w2 g s) (hw1 : 1 ≤ w1 ∧ w1 ≤ k) (K : Bool → Vn → Prop) (h : K false (stE k f d m w1 w2 g s c0 c12 (.val (.lst (kindsL (decide (0 < s) && decide (g + w2 - k - s - f ≤ 0)) (!decide (lastP f m w2 g k s)) (decide (2 * w1 - k - s - f ≤ 0))))))) : (wNot (wTru (wOf (wCall W__law_like [] (wCons (wOf (wCall W_kinds_of [] (wCons (wSl 9) (wCons (wSl 1) wNil)))) (wCons (wOf (wCB gTuple (wCons (wSl 13) wNil))) wNil)))))) (stE k f d m w1 w2 g s c0 c12 (.val (.lst (kindsL (decide (0 < s) && decide (g + w2 - k - s - f ≤ 0)) (!decide (lastP f m w2 g k s)) (decide (2 * w1 - k - s - f ≤ 0)))))) K := by
  have hk := hN.hk
  simp
  refine kinds_ok (by omega) hN.hs.1 ?_
  exact like_kinds (n := 2) h
theorem tst5 (hN : Sml k f d m w1 w2 g s) (hw1 : 1 ≤ w1 ∧ w1 ≤ k) (hA : A = cA k f d m w1 w2 g s) (hB : B = cB k f d m w1 w2 g s) (hC : C = cC k f d m w1 w2 g s) (K : Bool → Vn → Prop) (h : K false (stE k f d m w1 w2 g s c0 (.val (.tup [.bl A, .bl B, .bl C])) c13)) : (wNot (wTru (wOf (wCall W__law_like [] (wCons (wOf (wTup (wCons (wOf (wCall W_is_single [] (wCons (wSl 9) (wCons (wSl 1) wNil)))) (wCons (wOf (wCall W_is_lasting [] (wCons (wSl 9) (wCons (wSl 1) wNil)))) (wCons (wOf (wCall W_plain_lasts [] (wCons (wSl 9) (wCons (wSl 1) wNil)))) wNil))))) (wCons (wSl 12) wNil)))))) (stE k f d m w1 w2 g s c0 (.val (.tup [.bl A, .bl B, .bl C])) c13) K := by
  have hk := hN.hk
  have hf := hN.hf
  have z3 : (3 : Nat) ≤ sizeLine := le_sz (by omega)
  have e2 : (if s = 0 then decide (f + m ≤ w2) else decide (0 ≤ g + w2 - k - s - f - m)) = B := by
    rw [hB]; unfold cB
    by_cases h0 : s = 0
    · rw [if_pos h0]; exact decide_eq_decide.2 (by rw [if_pos h0])
    · rw [if_neg h0]; exact decide_eq_decide.2 (by rw [if_neg h0])
  have e3 : (if s = 0 then decide (2 * f + m ≤ w2) else decide (0 ≤ g + w2 - k - s - 2 * f - m)) = C := by
    rw [hC]; unfold cC
    by_cases h0 : s = 0
    · rw [if_pos h0]; exact decide_eq_decide.2 (by rw [if_pos h0])
    · rw [if_neg h0]; exact decide_eq_decide.2 (by rw [if_neg h0])
  clear hB hC
  simp [z3]
  refine (single_iff (by omega)).2 ?_
  refine lasting_iff.2 ?_
  refine (plain_lasts_iff (by omega)).2 ?_
  rw [e2, e3]
  have e1 : (decide (0 < 2 * w1 - k - s - f) && (decide (s = 0) || decide (0 < g + w2 - k - s - f))) = A := hA.symm
  rw [e1]
  exact like_bls (n := 2) (l := [A, B, C]) (by simp) h
theorem tst3' (hN : Sml k f d m w1 w2 g s) (hw1 : 1 ≤ w1 ∧ w1 ≤ k) (K : Bool → Vn → Prop) (h : K false (stE k f d m w1 w2 g s c0 c12 c13)) : (wNot (wTru (wOf (wCall W__law_like [] (wCons (wOf (wTup (wCons (wOf (wCall W_near_slack [] (wCons (wSl 9) (wCons (wSl 1) wNil)))) (wCons (wOf (wCall W_far_slack [] (wCons (wSl 9) (wCons (wSl 1) wNil)))) (wCons (wOf (wCall W_mend_slack [] (wCons (wSl 9) (wCons (wSl 1) wNil)))) (wCons (wOf (wCall W_plain_slack [] (wCons (wSl 9) (wCons (wSl 1) wNil)))) wNil)))))) (wCons (wOf (wTup (wCons (wOf (wVar 11)) (wCons (wOf (wVar 10)) (wCons (wOf (wOp gSub (wSl 10) (wSl 5))) (wCons (wOf (wOp gSub (wOf (wOp gSub (wSl 10) (wSl 5))) (wSl 3))) wNil)))))) wNil)))))) (stE k f d m w1 w2 g s c0 c12 c13) K := by
  have hk := hN.hk
  have hf := hN.hf
  have z4 : (4 : Nat) ≤ sizeLine := le_sz (by omega)
  have h1 : sm w1 := by omega
  have h2 : sm f := by omega
  simp [z4, h1, plain_slack_iff h2]
  have e : g + w2 - k - s - 2 * f - m = g + w2 - k - s - f - m - f := by omega
  rw [e]
  exact like_tI (n := 2) (l := [_, _, _, _]) (by simp) h
theorem for_list {ρ : Vn} {w : WE} {S : List D → Prop} {gg : WG} {b : WS} (h : Ev w ρ fun d => ∃ l, d = .lst l ∧ S l) (k : ∀ l, S l → forV gg b l D' ρ) : wFor (wIt (wOf w)) gg b D' ρ := h.h _ fun d hd => by
  obtain ⟨l, rfl, hl⟩ := hd
  exact k l hl
theorem sums5 (hf : sm f) (h : R (.bl true)) : W__law_sums_right_R5 { nx := fun _ => R .non, rt := R } (stE k f d m w1 w2 g s c0 (.val (.tup [.bl A, .bl B, .bl C])) c13) := by
  have e := Ev.lst (S' := fun d => ∃ l, d = .lst l ∧ ∃ a b c e : Int, l = [.int a, .int b, .int c, .int e]) (EvL.cons (S := fun d => ∃ i : Int, d = .int i) (Ev.cst (ρ := stE k f d m w1 w2 g s c0 (.val (.tup [.bl A, .bl B, .bl C])) c13) ⟨1, rfl⟩) (EvL.cons (e := wVar 7) (Ev.var rfl ⟨w2, rfl⟩) (EvL.cons (e := wVar 8) (Ev.var rfl ⟨g, rfl⟩) (EvL.cons (e := wVar 2) (Ev.var rfl ⟨k, rfl⟩) .nil)))) (by omega) fun l hl ha => by
    match l, hl with
    | [a, b, c, e], _ =>
      obtain ⟨a, rfl⟩ := ha a (by simp)
      obtain ⟨b, rfl⟩ := ha b (by simp)
      obtain ⟨c, rfl⟩ := ha c (by simp)
      obtain ⟨e, rfl⟩ := ha e (by simp)
      exact ⟨_, rfl, a, b, c, e, rfl⟩
  unfold W__law_sums_right_R5
  rw [wSeq]
  refine for_list e ?_
  rintro _ ⟨a, b, c, e, rfl⟩
  refine sums_step hf fun d14 d15 d16 => ?_
  refine sums_step hf fun d14 d15 d16 => ?_
  refine sums_step hf fun d14 d15 d16 => ?_
  refine sums_step hf fun d14 d15 d16 => ?_
  rw [for_nil]
  exact h
end
end K78

namespace K78
open PySem PySem.Spec PyProof.Rows L2 Hl Vl
theorem Ev.addL {e1 e2 : WE} {ρ : Vn} {a b : List D} (h1 : Ev e1 ρ (· = .lst a)) (h2 : Ev e2 ρ (· = .lst b)) (hz : a.length + b.length ≤ 100000) : Ev (wOp gAdd (wOf e1) (wOf e2)) ρ (· = .lst (a ++ b)) := ⟨fun K k =>
  h1.h _ fun x hx => h2.h _ fun y hy => by subst hx hy; exact ⟨le_sz hz, k _ rfl⟩⟩
section
variable {k f d m w1 w2 g s r : Int} {R : D → Prop} {D' : EV} {c0 c12 c13 c15 c16 : Cell} {A B C : Bool}
theorem sums4 (hN : Sml k f d m w1 w2 g s) (hm : m ≤ 6) (hw1 : 1 ≤ w1 ∧ w1 ≤ k) (hg : 1 ≤ g ∧ g ≤ k) (h : R (.bl true)) : W__law_sums_right_R4 { nx := fun _ => R .non, rt := R } (stE k f d m w1 w2 g s c0 (.val (.tup [.bl A, .bl B, .bl C])) c13) := by
  have hf := hN.hf
  have hk := hN.hk
  unfold W__law_sums_right_R4
  exact seq_if (b := false) (fun K h => tst8 hN hm hw1 hg K h) (fun z => by cases z) fun _ => sums5 (by omega) h
theorem if_len {P : Prop} [Decidable P] {x : D} : (if P then [x] else []).length ≤ 1 := by split <;> simp
theorem sums3 (hN : Sml k f d m w1 w2 g s) (hm : m ≤ 6) (hw1 : 1 ≤ w1 ∧ w1 ≤ k) (hg : 1 ≤ g ∧ g ≤ k) (hB : B = cB k f d m w1 w2 g s) (h : R (.bl true)) : W__law_sums_right_R3 { nx := fun _ => R .non, rt := R } (stE k f d m w1 w2 g s c0 (.val (.tup [.bl A, .bl B, .bl C])) .no) := by
  unfold W__law_sums_right_R3
  have e := Ev.addL (Ev.addL (evF (k := k) (f := f) (d := d) (m := m) (w1 := w1) (w2 := w2) (g := g) (s := s) (c0 := c0) (c12 := .val (.tup [.bl A, .bl B, .bl C])) (c13 := .no) (c14 := .no) (c15 := .no) (c16 := .no)) evG (by
    have := @if_len ((decide (0 < s) && decide (g + w2 - k - s - f ≤ 0)) = true) _ (D.str "far")
    have := @if_len ((!B) = true) _ (D.str "gone")
    omega)) evN (by
    have := @if_len ((decide (0 < s) && decide (g + w2 - k - s - f ≤ 0)) = true) _ (D.str "far")
    have := @if_len ((!B) = true) _ (D.str "gone")
    have := @if_len (decide (2 * w1 - k - s - f ≤ 0) = true) _ (D.str "near")
    rw [List.length_append]
    omega)
  refine seq_ev e ?_
  rintro _ rfl
  have hk : ((if (decide (0 < s) && decide (g + w2 - k - s - f ≤ 0)) = true then [D.str "far"] else []) ++ (if (!B) = true then [D.str "gone"] else [])) ++ (if decide (2 * w1 - k - s - f ≤ 0) = true then [D.str "near"] else []) = kindsL (decide (0 < s) && decide (g + w2 - k - s - f ≤ 0)) (!decide (lastP f m w2 g k s)) (decide (2 * w1 - k - s - f ≤ 0)) := by
    rw [List.append_assoc, hB]
    rfl
  rw [hk]
  exact seq_if (b := false) (fun K h => tst7 hN hw1 K h) (fun z => by cases z) fun _ => sums4 hN hm hw1 hg h
theorem sums2 (hN : Sml k f d m w1 w2 g s) (hm : m ≤ 6) (hw1 : 1 ≤ w1 ∧ w1 ≤ k) (hg : 1 ≤ g ∧ g ≤ k) (h : R (.bl true)) : W__law_sums_right_R2 { nx := fun _ => R .non, rt := R } (stE k f d m w1 w2 g s c0 .no .no) := by
  have hf := hN.hf
  have hk := hN.hk
  have hs := hN.hs
  unfold W__law_sums_right_R2
  refine seq_ev (Ev.tup3 evA (evB hs.1) (evC hs.1 (by omega))) ?_
  rintro _ rfl
  exact seq_if (b := false) (fun K h => tst5 hN hw1 rfl rfl rfl K h) (fun z => by cases z) fun _ => sums3 hN hm hw1 hg rfl h
theorem sums1 (hN : Sml k f d m w1 w2 g s) (hm : m ≤ 6) (hw1 : 1 ≤ w1 ∧ w1 ≤ k) (hg : 1 ≤ g ∧ g ≤ k) (h : R (.bl true)) : W__law_sums_right_R1 { nx := fun _ => R .non, rt := R } [c0, .val (.int s), .val (.int k), .val (.int f), .val (.int d), .val (.int m), .val (.int w1), .val (.int w2), .val (.int g), .val (numO k f d m w1 w2 g), .val (.int (g + w2 - k - s - f)), .no, .no, .no, .no, .no, .no] := by
  have hk := hN.hk
  have cm : CMulW 2 w1 := mul_small (by omega) (by omega)
  unfold W__law_sums_right_R1
  refine seq_ev (S := (· = .int (2 * w1 - k - s - f))) ⟨fun K k => ?_⟩ ?_
  · simp [cm]
    exact k _ rfl
  rintro _ rfl
  exact seq_if (b := false) (fun K h => tst3' hN hw1 K h) (fun z => by cases z) fun _ => sums2 hN hm hw1 hg h
theorem sums_ok (hN : Sml k f d m w1 w2 g s) (hm : m ≤ 6 ∧ m ≤ k) (hw1 : 1 ≤ w1 ∧ w1 ≤ k) (hg : 1 ≤ g ∧ g ≤ k) (h : R (.bl true)) : W__law_sums_right [.tup [.int k, .int f, .int d, .int m, .int w1, .int w2, .int g], .int s] R := by
  rw [W__law_sums_right_eq]
  simp
  refine numbers_ok hN.hk hN.hf hN.hd ⟨hN.hm.1, hm.2, hm.1⟩ hw1 hN.hw hg ?_
  exact sums1 hN hm.1 hw1 hg h
end
end K78

namespace K78
open PySem PySem.Spec PyProof.Rows L2 Hl Vl
theorem sumLO_lI : ∀ c : List (List Int), sumLO (c.map lI) = some (c.flatten.map D.int)
  | [] => rfl
  | l :: c => by
    rw [List.map_cons, List.flatten_cons, List.map_append]
    show (sumLO (c.map lI)).map _ = _
    rw [sumLO_lI c]
    rfl
theorem flat_len {m : Nat} : ∀ {c : List (List Int)}, (∀ l ∈ c, l.length ≤ m) → c.flatten.length ≤ m * c.length
  | [], _ => by simp
  | l :: c, h => by
    have h1 := h l (List.mem_cons_self ..)
    have h2 := flat_len (fun x hx => h x (List.mem_cons_of_mem _ hx))
    rw [List.flatten_cons, List.length_append, List.length_cons, Nat.mul_add, Nat.mul_one]
    omega
def W__law_never_open_L2_R5 : WS := (wIf (wAnd (wTru (wSl 12)) (wTst (wOp gNe (wOf (wOp gIx (wSl 21) (wOf (wC (.int 1))))) (wOf (wTup wNil))))) (wRet (wC (.bl false))) wNext)
def W__law_never_open_L2_R4 : WS := (wSeq (wIf (wNot (wTru (wOf (wCall W__law_like [] (wCons (wOf (wTup (wCons (wOf (wCall W_blanks [] (wCons (wSl 13) (wCons (wSl 11) (wCons (wSl 15) (wCons (wSl 19) (wCons (wSl 20) (wCons (wSl 3) wNil)))))))) (wCons (wOf (wCall W_open_words [] (wCons (wSl 13) (wCons (wSl 11) (wCons (wSl 15) (wCons (wSl 19) (wCons (wSl 20) (wCons (wSl 3) wNil)))))))) wNil)))) (wCons (wSl 21) wNil)))))) (wRet (wC (.bl false))) wNext) W__law_never_open_L2_R5)
def W__law_never_open_L2_R3 : WS := (wSeq (wSet (wCall W__law_line [] (wCons (wSl 13) (wCons (wSl 6) (wCons (wSl 10) (wCons (wSl 15) (wCons (wSl 19) (wCons (wSl 20) (wCons (wSl 3) wNil)))))))) (gV 21)) W__law_never_open_L2_R4)
def W__law_never_open_L2_R2 : WS := (wSeq (wPar2 19 20 (wQc (wQv (wCB gTuple (wCons (wOf (wFz (wCBF fSortedP (wCons (wSl 16) wNil)))) wNil))) (wQc (wQv (wCall W__law_some [] (wCons (wSl 0) (wCons (wOf (wOp gIx (wSl 13) (wSl 15))) (wCons (wSl 9) wNil))))) wQn))) W__law_never_open_L2_R3)
def W__law_never_open_L2_R1 : WS := (wSeq (wParT [16, 17] (wQc (wQf (wLst wNil)) (wQc (wQv (wFz (wCBF fSortedP (wCons (wOf (wCB gSet (wCons (wOf (wFz (wCBF fSumL (wCons (wOf (wFz (wLc (wIt (wSl 13)) (gV 19) wYes (wFz (wCBF fList (wCons (wSl 19) wNil))) [19]))) (wCons (wOf (wFz (wLst wNil))) wNil))))) wNil))) wNil)))) wQn))) (wSeq (wFor (wIt (wOf (wCall W__law_mixed [] (wCons (wSl 0) (wCons (wSl 17) wNil))))) (gV 18) W__law_never_open_L1) W__law_never_open_L2_R2))
theorem W__law_never_open_L2_eq : W__law_never_open_L2 =  (wSeq (wSet (wCall W__law_draw [] (wCons (wSl 0) (wCons (wOf (wOp gSub (wOf (wCB gLen (wCons (wSl 13) wNil))) (wSl 6))) wNil))) (gV 15)) W__law_never_open_L2_R1) := rfl

def W__law_never_open_R3 : WS := (wSeq (wFor (wRg1 (wCons (wOf (wC (.int 3))) wNil)) (gV 14) W__law_never_open_L2) (wRet (wC (.bl true))))
def W__law_never_open_R2 : WS := (wSeq (wIf (wTst (wOp gGt (wOf (wCall W__law_gap [] (wCons (wSl 13) (wCons (wSl 6) wNil)))) (wSl 2))) (wRet (wC (.bl false))) wNext) W__law_never_open_R3)
def W__law_never_open_R1 : WS := (wSeq (wSet (wCall W__law_slow [] (wCons (wSl 0) (wCons (wSl 4) (wCons (wSl 2) (wCons (wSl 6) (wCons (wOf (wCB gMin (wCons (wOf (wC (.int 24))) (wCons (wOf (wOp gAdd (wOf (wOp gAdd (wSl 4) (wOf (wC (.int 1))))) (wOf (wCall W__law_draw [] (wCons (wSl 0) (wCons (wOf (wC (.int 8))) wNil)))))) wNil)))) (wCons (wOf (wOp gAdd (wSl 6) (wOf (wCall W__law_draw [] (wCons (wSl 0) (wCons (wOf (wC (.int 12))) wNil)))))) wNil))))))) (gV 13)) W__law_never_open_R2)
theorem W__law_never_open_eq : W__law_never_open = wDef 4 23 (wSeq (wSet (wVar 1) (gTupV 7 (gConsV (gV 4) (gConsV (gV 5) (gConsV (gV 6) (gConsV (gV 7) (gConsV (gV 8) (gConsV (gV 9) (gConsV (gV 10) gNilV))))))))) (wSeq (wPar2 11 12 (wQc (wQv (wMake "Numbers" W_Numbers_init [] (wCons (wOf (wVar 4)) (wCons (wOf (wVar 5)) (wCons (wOf (wVar 6)) (wCons (wOf (wVar 7)) (wCons (wOf (wVar 8)) (wCons (wOf (wVar 9)) (wCons (wOf (wVar 10)) wNil))))))))) (wQc (wQv (wOp gGe (wOf (wOp gAdd (wSl 10) (wSl 9))) (wOf (wOp gAdd (wOf (wOp gAdd (wOf (wOp gAdd (wSl 4) (wSl 2))) (wSl 5))) (wSl 3))))) wQn))) W__law_never_open_R1)) := rfl

theorem sortU_nd (l : List Int) : (sortU l).Nodup := (sortU_sorted l).imp fun h e => by omega
section
variable {most need k f d m w1 w2 g : Nat} {ho : Bool} {c : List (List Int)} {c1 c14 c15 c16 c17 c18 c19 c20 c21 : Cell} {D' : EV}
abbrev nSt (c1 : Cell) (most need k f d m w1 w2 g : Nat) (ho : Bool) (c : List (List Int)) (c14 c15 c16 c17 c18 c19 c20 c21 : Cell) : Vn := [.val .hnd, c1, .val (.int most), .val (.int need), .val (.int k), .val (.int f), .val (.int d), .val (.int m), .val (.int w1), .val (.int w2), .val (.int g), .val (numO k f d m w1 w2 g), .val (.bl ho), .val (cD c), c14, c15, c16, c17, c18, c19, c20, c21, .no]
abbrev few (c : List (List Int)) (f : Nat) (L : List Int) : Prop := ∀ l ∈ c, (inB l L).length ≤ f
theorem no_loop1 (h19 : c19 = .no ∨ ∃ v, c19 = .val v) (hc : c.length ≤ 300) (hl : ∀ l ∈ c, l.length ≤ 24) : ∀ (xs : List Int) {L : List Int} {c18 : Cell}, L.length + xs.length ≤ 24 → few c f L →
    (∀ (L' : List Int) (d18 : Cell), L'.length ≤ 24 → few c f L' → D'.nx (nSt c1 most need k f d m w1 w2 g ho c c14 c15 (.own (L'.map D.int)) c17 d18 c19 c20 c21)) →
    forV (gV 18) W__law_never_open_L1 (xs.map D.int) D' (nSt c1 most need k f d m w1 w2 g ho c c14 c15 (.own (L.map D.int)) c17 c18 c19 c20 c21)
  | [], L, c18, h1, h2, h => h L _ (by simpa using h1) h2
  | x :: xs, L, c18, h1, h2, h => by
    rw [List.length_cons] at h1
    have z1 : (1 : Nat) ≤ sizeLine := le_sz (by omega)
    rw [List.map_cons, for_cons]
    generalize hF : forV (gV 18) W__law_never_open_L1 (xs.map D.int) D' = F
    have hn : ∀ L' : List Int, L'.length ≤ L.length + 1 → few c f L' → F (nSt c1 most need k f d m w1 w2 g ho c c14 c15 (.own (L'.map D.int)) c17 (.val (.int x)) c19 c20 c21) := fun L' a b => by
      rw [← hF]
      exact no_loop1 h19 hc hl xs (by omega) b h
    have hcond : ∀ K : Bool → Vn → Prop, (∀ b, (b = true → few c f (L ++ [x])) → K b (nSt c1 most need k f d m w1 w2 g ho c c14 c15 (.own (L.map D.int)) c17 (.val (.int x)) c19 c20 c21)) → (wAnd (wTru (wOf (wCB gAll (wCons (wOf (wFz (wLc (wIt (wSl 13)) (gV 19) wYes (wOp gLe (wOf (wCB gLen (wCons (wOf (wFz (wLc (wIt (wSl 19)) (gV 22) (wTst (wOp (gInP false) (wSl 22) (wOf (wOp gAdd (wSl 16) (wOf (wFz (wLst (wCons (wOf (wVar 18)) wNil)))))))) (wVar 22) [22]))) wNil))) (wSl 5)) [19]))) wNil)))) (wTst (wOp gGt (wOf (wCall W__law_draw [] (wCons (wSl 0) (wCons (wOf (wC (.int 3))) wNil)))) (wOf (wC (.int 0)))))) (nSt c1 most need k f d m w1 w2 g ho c c14 c15 (.own (L.map D.int)) c17 (.val (.int x)) c19 c20 c21) K := fun K hk => by
      rcases h19 with rfl | ⟨v, rfl⟩
      all_goals
        simp
        refine lc_m tI (fun l => D.bl (decide ((inB l (L ++ [x])).length ≤ f))) c (fun l hl' A B k1 => ?_) rfl (le_sz (by omega)) ?_
        · simp at k1
          simp
          refine lc_v D.int (fun y => decide (y ∈ L ++ [x])) D.int l [] (fun y hy A B h1 h2 => ?_) rfl (by have := hl l hl'; simp; exact le_sz (by omega)) ?_
          · have e : L.map D.int ++ [D.int x] = (L ++ [x]).map D.int := by simp
            have em : (D.int y).mem (L.map D.int ++ [D.int x]) = decide (y ∈ L ++ [x]) := by rw [e, mem_ints']
            simp [z1]
            rw [em]
            refine ⟨le_sz (by omega), ?_, h1, h2⟩
            rintro y (⟨a, _, rfl⟩ | rfl) <;> rfl
          · have i3 : (l.filter fun y => decide (y ∈ L ++ [x])) = inB l (L ++ [x]) := rfl
            rw [List.nil_append, i3]
            simp
            exact k1
        · have q : ∀ b : Bool, (b = true → ¬ false ∈ c.map fun l => decide ((inB l (L ++ [x])).length ≤ f)) → _ := fun b hb => hk b fun z l hl => by
            have := hb z
            by_cases hle : (inB l (L ++ [x])).length ≤ f
            · exact hle
            · exact absurd (List.mem_map.2 ⟨l, hl, decide_eq_false hle⟩) this
          simp [-List.mem_map]
          refine ⟨fun hnf r r0 r1 => ?_, fun hnf => ?_⟩
          · simpa using q _ fun _ => hnf
          · simpa using q false (fun z => by cases z)
    have hst : W__law_never_open_L1 { D' with nx := F, ct := F, bk := D'.nx } (nSt c1 most need k f d m w1 w2 g ho c c14 c15 (.own (L.map D.int)) c17 (.val (.int x)) c19 c20 c21) := by
      unfold W__law_never_open_L1 wIf
      refine hcond _ ?_
      intro b hb
      refine ⟨fun z => ?_, fun z => ?_⟩
      · have := hn (L ++ [x]) (by simp) (hb z)
        simp
        exact ⟨lt_sz (by omega), by simpa using this⟩
      · exact hn L (by omega) h2
    exact hst
end
end K78

namespace K78
open PySem PySem.Spec PyProof.Rows L2 Hl Vl
theorem Crs.cls {k : Nat} {c : List (List Int)} (h : Crs k c) : Cls c := ⟨h.len.2, fun l hl => (h.lot l hl).nd, fun l hl => by have := (h.lot l hl).len; have := h.hk; omega⟩
/-- every lot of a line is small -/
theorem lineS_sm {L K : List Int} {gn : Int} {c : List (List Int)} (hC : Cls c) : ∀ {i : Int} {cur : List Int} {rest : List (List Int)} {B T : List Int}, (∀ l ∈ rest, l ∈ c) → Gd L cur B → ∀ l ∈ (lineS L K gn i cur rest B T).1, l.length ≤ 24
  | _, _, [], _, _, _, _, l, h => by simp [lineS] at h
  | i, cur, nx :: rest, B, T, hr, hG, l, h => by
    have hn := hr nx (List.mem_cons_self ..)
    have hG' := hG.next (K := K) (gn := gn) (T := T) (hC.nd _ hn)
    simp only [lineS, List.mem_cons] at h
    rcases h with rfl | h
    · exact Nat.le_trans hG'.len (hC.sm _ hn)
    · exact lineS_sm hC (fun l hl => hr l (List.mem_cons_of_mem _ hl)) hG' l h
theorem lineR_sm {L K : List Int} {gn : Int} {c : List (List Int)} {s : Nat} (hC : Cls c) : ∀ l ∈ (lineR c L K gn s).1, l.length ≤ 24 := by
  unfold lineR
  cases e : c.drop s with
  | nil => intro l h; simp at h
  | cons cur rest =>
    have hm : ∀ x ∈ c.drop s, x ∈ c := fun x hx => List.mem_of_mem_drop hx
    rw [e] at hm
    have hG : Gd L cur (startB L K cur) := .start (hC.nd _ (hm cur (List.mem_cons_self ..)))
    intro l h
    simp only [lineF, List.mem_cons] at h
    rcases h with rfl | h
    · exact Nat.le_trans hG.len (hC.sm _ (hm cur (List.mem_cons_self ..)))
    · exact lineS_sm hC (fun x hx => hm x (List.mem_cons_of_mem _ hx)) hG l h
section
variable {most need k f d m w1 w2 g p : Nat} {ho : Bool} {c : List (List Int)} {L K : List Int} {c1 c14 c15 c16 c17 c18 c19 c20 c21 : Cell} {D' : EV}
def dueD (c : List (List Int)) (L K : List Int) (gn : Int) (s : Nat) : D := .tup [.tup ((lineR c L K gn s).1.map tI), tI (lineR c L K gn s).2]
theorem no5 (hg : ho = true → (lineR c L K ((g : Int) - need) (p + d)).2 = []) (h : D'.nx (nSt c1 most need k f d m w1 w2 g ho c c14 c15 c16 c17 c18 c19 c20 (.val (dueD c L K ((g : Int) - need) (p + d))))) :
    W__law_never_open_L2_R5 D' (nSt c1 most need k f d m w1 w2 g ho c c14 c15 c16 c17 c18 c19 c20 (.val (dueD c L K ((g : Int) - need) (p + d)))) := by
  have a1 : ∀ x y : D, atI [x, y] 1 = some y := fun x y => rfl
  have e0 : (tI []).eqv (.tup []) = true := rfl
  unfold W__law_never_open_L2_R5
  unfold dueD at h ⊢
  cases ho with
  | false =>
    simp
    exact h
  | true =>
    rw [hg rfl] at h ⊢
    have d0 : D.dat dmax (.tup []) = true := rfl
    simp [a1, e0, d0]
    exact h
theorem like_due {n : Nat} {gn : Int} {s : Nat} {Q : D → Prop} (hC : Cls c) (h : Q (.bl true)) : W__law_like_at (n + 4) [dueD c L K gn s, dueD c L K gn s] Q := by
  have hl := @lineR_len c L K gn s
  have hc := hC.len
  have hsm := @lineR_sm L K gn c s hC
  refine like_tup (fun d hd Q hQ => ?_) (by simp) h
  simp only [List.mem_cons, List.not_mem_nil, or_false] at hd
  rcases hd with rfl | rfl
  · refine like_tup (fun d hd Q hQ => ?_) (by simp; omega) hQ
    obtain ⟨l, hl', rfl⟩ := List.mem_map.1 hd
    exact like_tI (by have := hsm l hl'; omega) hQ
  · exact like_tI (n := n + 1) (by omega) hQ
theorem no4 (hC : Crs k c) (hg : ho = true → (lineR c L K ((g : Int) - need) (p + d)).2 = []) (h : D'.nx (nSt c1 most need k f d m w1 w2 g ho c c14 (.val (.int p)) c16 c17 c18 (.val (tI L)) (.val (tI K)) (.val (dueD c L K ((g : Int) - need) (p + d))))) :
    W__law_never_open_L2_R4 D' (nSt c1 most need k f d m w1 w2 g ho c c14 (.val (.int p)) c16 c17 c18 (.val (tI L)) (.val (tI K)) (.val (dueD c L K ((g : Int) - need) (p + d)))) := by
  have z2 : (2 : Nat) ≤ sizeLine := le_sz (by omega)
  unfold W__law_never_open_L2_R4
  refine seq_if (b := false) (fun Kk hk => ?_) (fun z => by cases z) fun _ => no5 hg h
  simp [z2]
  refine blanks_ok hC.cls num_g num_d (s := p + d) (by omega) ?_
  refine open_words_ok hC.cls num_g num_d (s := p + d) (by omega) ?_
  exact like_due (n := 0) hC.cls hk
theorem no3 (hC : Crs k c) (hp : p + d < c.length) (hL : L.length ≤ 24) (hK : K.length ≤ 24) (hg : ho = true → (lineR c L K ((g : Int) - need) (p + d)).2 = []) (h : ∀ d21, D'.nx (nSt c1 most need k f d m w1 w2 g ho c c14 (.val (.int p)) c16 c17 c18 (.val (tI L)) (.val (tI K)) d21)) :
    W__law_never_open_L2_R3 D' (nSt c1 most need k f d m w1 w2 g ho c c14 (.val (.int p)) c16 c17 c18 (.val (tI L)) (.val (tI K)) c21) := by
  unfold W__law_never_open_L2_R3
  refine seq_ev (S := (· = dueD c L K ((g : Int) - need) (p + d))) ⟨fun Kk hk => ?_⟩ ?_
  · simp
    refine law_line_ok hC.cls hL hK (s := p + d) (by omega) hp ?_
    exact hk _ rfl
  rintro _ rfl
  exact no4 hC hg (h _)
theorem no2 (hC : Crs k c) (hp : p + d < c.length) (hL : L.length ≤ 24) (hw : w2 ≤ k) (hfew : few c f L) (hgap : gapOf c d ≤ most) (hho : ho = true → k + most + f + need ≤ g + w2) (h : ∀ d16 d19 d20 d21, D'.nx (nSt c1 most need k f d m w1 w2 g ho c c14 (.val (.int p)) d16 c17 c18 (.val d19) d20 d21)) :
    W__law_never_open_L2_R2 D' (nSt c1 most need k f d m w1 w2 g ho c c14 (.val (.int p)) (.own (L.map D.int)) c17 c18 c19 c20 c21) := by
  have hp' : p < c.length := by omega
  have hk := hC.hk
  have P := hC.at hp'
  unfold W__law_never_open_L2_R2
  refine par2_ev (S := (· = tI (sortI L))) (S' := fun d => ∃ K, d = tI K ∧ LotIn w2 (cAt c p) K) ⟨fun Kk hk => ?_⟩ ⟨fun Kk hk => ?_⟩ ?_
  · simp
    exact hk _ rfl
  · simp [at_c hp']
    refine some_ok (.inl rfl) P.nd (by rw [P.len]; exact hw) (by rw [P.len]; omega) fun l hl => ?_
    simpa using hk _ ⟨l, rfl, hl⟩
  · rintro _ _ rfl ⟨K, rfl, hK⟩
    refine no3 hC hp (by rw [len_sortI]; exact hL) (by rw [hK.len]; omega) (fun z => ?_) fun d21 => h _ _ _ _
    refine line_shut hC hp (gapOf_le.1 hgap p (p + d) (by omega) hp (Nat.le_refl _)) (lt_nd hK.lt) hK.len hK.sub (f := f) (fun l hl => ?_) (by have := hho z; omega)
    have := hfew l hl
    have e : inB l (sortI L) = inB l L := by
      unfold inB
      refine List.filter_congr fun x _ => ?_
      exact decide_eq_decide.2 mem_sortI
    rw [e]
    exact this
theorem no1 (h19 : c19 = .no ∨ ∃ v, c19 = .val v) (hC : Crs k c) (hcl : c.length ≤ 40) (h24 : ∀ l ∈ c, ∀ x ∈ l, x < 24) (hp : p + d < c.length) (hw : w2 ≤ k) (hgap : gapOf c d ≤ most) (hho : ho = true → k + most + f + need ≤ g + w2) (h : ∀ d16 d17 d18 d19 d20 d21, D'.nx (nSt c1 most need k f d m w1 w2 g ho c c14 (.val (.int p)) d16 d17 d18 (.val d19) d20 d21)) :
    W__law_never_open_L2_R1 D' (nSt c1 most need k f d m w1 w2 g ho c c14 (.val (.int p)) c16 c17 c18 c19 c20 c21) := by
  have hc := hC.len
  have hk := hC.hk
  have hlot : ∀ l ∈ c, l.length ≤ 24 := fun l hl => by have := (hC.lot l hl).len; omega
  have hfl := flat_len hlot
  have hsu : (sortU c.flatten).length ≤ 24 := by
    have := len_le (sortU_nd c.flatten) (b := rl 24) fun x hx => by
      obtain ⟨l, hl, hx⟩ := List.mem_flatten.1 ((sortU_mem _ x).1 hx)
      exact mem_rl.2 ⟨(hC.lot l hl).lo x hx, h24 l hl x hx⟩
    rwa [rl_len] at this
  have hfew0 : few c f [] := fun l hl => by
    have e : inB l [] = [] := by unfold inB; simp
    rw [e]; simp
  unfold W__law_never_open_L2_R1
  rcases h19 with rfl | ⟨v, rfl⟩
  all_goals
    simp [-forV]
    refine lc_m tI lI c (fun x hx A B k1 => ?_) rfl (le_sz (by omega)) ?_
    · simpa using k1
    rw [sumLO_lI]
    simp only [oK_some, intsO_ints]
    refine ⟨⟨by rw [List.length_map]; omega, le_sz (by rw [List.length_map]; omega)⟩, by omega, by omega, le_sz (by omega), ?_⟩
    simp [-forV]
    refine mixed_ok (.inr rfl) (by omega) fun l hl => ?_
    have hll := hl.length_eq
    simp [-forV]
  · refine no_loop1 (.inl rfl) hC.len.2 hlot l (L := []) (by simp; omega) hfew0 fun L' d18 g1 g2 => ?_
    exact no2 hC hp g1 hw g2 hgap hho fun _ _ _ _ => h _ _ _ _ _ _
  · refine no_loop1 (.inr ⟨_, rfl⟩) hC.len.2 hlot l (L := []) (by simp; omega) hfew0 fun L' d18 g1 g2 => ?_
    exact no2 hC hp g1 hw g2 hgap hho fun _ _ _ _ => h _ _ _ _ _ _
theorem no_loop2 (hC : Crs k c) (hcl : c.length ≤ 40) (h24 : ∀ l ∈ c, ∀ x ∈ l, x < 24) (hd : d < c.length) (hw : w2 ≤ k) (hgap : gapOf c d ≤ most) (hho : ho = true → k + most + f + need ≤ g + w2) : ∀ (n : Nat) {lo : Int} {c14 c15 c16 c17 c18 c19 c20 c21 : Cell}, (c19 = .no ∨ ∃ v, c19 = .val v) →
    (∀ d14 d15 d16 d17 d18 d19 d20 d21, D'.nx (nSt c1 most need k f d m w1 w2 g ho c d14 d15 d16 d17 d18 d19 d20 d21)) →
    forV (gV 14) W__law_never_open_L2 (rgD lo n) D' (nSt c1 most need k f d m w1 w2 g ho c c14 c15 c16 c17 c18 c19 c20 c21)
  | 0, lo, _, _, _, _, _, _, _, _, _, h => h _ _ _ _ _ _ _ _
  | n + 1, lo, c14, c15, c16, c17, c18, c19, c20, c21, h19, h => by
    rw [rgD_succ, for_cons]
    generalize hF : forV (gV 14) W__law_never_open_L2 (rgD (lo + 1) n) D' = F
    rw [W__law_never_open_L2_eq]
    have e : ((c.length : Int) - d) = ((c.length - d : Nat) : Int) := by omega
    have hc := hC.len
    simp [e]
    refine ⟨by omega, by omega, fun r r0 r1 => ?_⟩
    obtain ⟨p, rfl⟩ : ∃ n : Nat, r = n := ⟨r.toNat, by omega⟩
    refine no1 h19 hC hcl h24 (by omega) hw hgap hho fun d16 d17 d18 d19 d20 d21 => ?_
    rw [← hF]
    exact no_loop2 hC hcl h24 hd hw hgap hho n (.inr ⟨_, rfl⟩) h
end
end K78

namespace K78
open PySem PySem.Spec PyProof.Rows L2 Hl Vl
structure Nm (k f d m w1 w2 g : Nat) : Prop where
  hk : 1 ≤ k ∧ k ≤ 12
  hf : f ≤ k
  hd : 1 ≤ d ∧ d ≤ 20
  hm : 1 ≤ m ∧ m ≤ 6 ∧ m ≤ k
  hw1 : 1 ≤ w1 ∧ w1 ≤ k
  hw2 : 1 ≤ w2 ∧ w2 ≤ k
  hg : 1 ≤ g ∧ g ≤ k
section
variable {most need k f d m w1 w2 g : Nat} {R : D → Prop}
theorem never_open_ok (hN : Nm k f d m w1 w2 g) (hmost : most ≤ 12) (h : R (.bl true)) : W__law_never_open [.hnd, .tup [.int k, .int f, .int d, .int m, .int w1, .int w2, .int g], .int most, .int need] R := by
  have h1 := hN.hk
  have h2 := hN.hf
  have h3 := hN.hd
  have h4 := hN.hm
  have h5 := hN.hw1
  have h6 := hN.hw2
  have h7 := hN.hg
  rw [W__law_never_open_eq]
  have un : ∀ (z : WS) (D' : EV) (ρ : Vn), z D' (((((((ρ.set 4 (.val (.int k))).set 5 (.val (.int f))).set 6 (.val (.int d))).set 7 (.val (.int m))).set 8 (.val (.int w1))).set 9 (.val (.int w2))).set 10 (.val (.int g))) → ρ.getD 1 .no = .val (.tup [.int k, .int f, .int d, .int m, .int w1, .int w2, .int g]) → wSeq (wSet (wVar 1) (gTupV 7 (gConsV (gV 4) (gConsV (gV 5) (gConsV (gV 6) (gConsV (gV 7) (gConsV (gV 8) (gConsV (gV 9) (gConsV (gV 10) gNilV))))))))) z D' ρ := fun z D' ρ hz h1 => by
    unfold wSeq wSet wVar
    rw [h1]
    simpa using hz
  refine ⟨rfl, ?_⟩
  refine un _ _ _ ?_ rfl
  refine par2_ev (S := (· = numO k f d m w1 w2 g)) (S' := (· = .bl (decide ((k : Int) + most + f + need ≤ (g : Int) + w2)))) ⟨fun K hk => ?_⟩ ⟨fun K hk => ?_⟩ ?_
  · simp
    refine numbers_ok (by omega) (by omega) (by omega) (by omega) (by omega) (by omega) (by omega) ?_
    exact hk _ rfl
  · simp
    exact hk _ rfl
  rintro _ _ rfl rfl
  unfold W__law_never_open_R1
  refine seq_ev (S := fun x => ∃ c, x = cD c ∧ Crs k c ∧ d < c.length ∧ c.length ≤ 40 ∧ gapOf c d ≤ most ∧ ∀ l ∈ c, ∀ x ∈ l, x < 24) ⟨fun K hk => ?_⟩ ?_
  · simp
    intro r r0 r1 r' r0' r1'
    obtain ⟨r, rfl⟩ : ∃ n : Nat, r = n := ⟨r.toNat, by omega⟩
    obtain ⟨r', rfl⟩ : ∃ n : Nat, r' = n := ⟨r'.toNat, by omega⟩
    have e1 : min (24 : Int) ((k : Int) + 1 + r) = ((min 24 (k + 1 + r) : Nat) : Int) := by omega
    have e2 : ((d : Int) + r') = ((d + r' : Nat) : Int) := by omega
    rw [e1, e2]
    refine slow_ok (by omega) (by omega) (by omega) (by omega) fun c hC hl hg h24 => ?_
    exact hk _ ⟨c, rfl, hC, by omega, by omega, hg, h24⟩
  rintro _ ⟨c, rfl, hC, hdc, hcl, hgap, h24⟩
  unfold W__law_never_open_R2
  refine seq_if (b := false) (fun K hk => ?_) (fun z => by cases z) fun _ => ?_
  · simp
    refine law_gap_ok hC ?_
    have hng : ¬ ((most : Int) < ((gapOf c d : Nat) : Int)) := by omega
    have hng2 : ¬ (most < gapOf c d) := by omega
    simp [hng, hng2]
    exact hk
  have hl := no_loop2 (most := most) (need := need) (k := k) (f := f) (d := d) (m := m) (w1 := w1) (w2 := w2) (g := g) (ho := decide ((k : Int) + most + f + need ≤ (g : Int) + w2)) (c1 := .val (.tup [.int k, .int f, .int d, .int m, .int w1, .int w2, .int g])) (D' := { nx := wRet (wC (.bl true)) { nx := fun _ => R .non, rt := R }, rt := R }) hC hcl h24 hdc h6.2 hgap (fun z => by have := of_decide_eq_true z; omega) 3 (lo := 0) (c14 := .no) (c15 := .no) (c16 := .no) (c17 := .no) (c18 := .no) (c19 := .no) (c20 := .no) (c21 := .no) (.inl rfl) fun _ _ _ _ _ _ _ _ => h
  simp [W__law_never_open_R3, -forV]
  exact hl
end
end K78

namespace K78
open PySem PySem.Spec PyProof.Rows L2 Hl Vl
/-! the law's stairs -/
def gnS (k f most d : Nat) : Nat → Nat
  | 0 => 0
  | i + 1 => min (k - f) (gnS k f most d i + if i % d = 0 then most else 0)
def fromI (a n : Nat) : List Int := (List.range n).map fun i => ((a + i : Nat) : Int)
theorem mem_fromI {a n : Nat} {x : Int} : x ∈ fromI a n ↔ (a : Int) ≤ x ∧ x < a + n := by
  simp only [fromI, List.mem_map, List.mem_range]
  constructor
  · rintro ⟨i, h, rfl⟩; omega
  · intro h; exact ⟨(x - a).toNat, by omega, by omega⟩
theorem fromI_len {a n : Nat} : (fromI a n).length = n := by simp [fromI]
theorem fromI_lt (a n : Nat) : (fromI a n).Pairwise (· < ·) := by
  rw [fromI, List.pairwise_map]
  exact List.Pairwise.imp (fun {a b} h => by omega) (List.pairwise_lt_range (n := n))
def lotS (k f g : Nat) : List Int := rl f ++ fromI (f + g) (k - f)
theorem mem_lotS {k f g : Nat} {x : Int} (hf : f ≤ k) : x ∈ lotS k f g ↔ (0 ≤ x ∧ x < f) ∨ ((f : Int) + g ≤ x ∧ x < k + g) := by
  unfold lotS
  rw [List.mem_append, mem_rl, mem_fromI]
  omega
theorem lotS_lot {k f g : Nat} (hf : f ≤ k) : Lot k (lotS k f g) := by
  refine ⟨?_, ?_, fun x hx => ?_⟩
  · unfold lotS; rw [List.length_append, rl_len, fromI_len]; omega
  · unfold lotS
    rw [List.pairwise_append]
    refine ⟨rl_lt f, fromI_lt _ _, fun x hx y hy => ?_⟩
    have := mem_rl.1 hx
    have := mem_fromI.1 hy
    omega
  · have := (mem_lotS hf).1 hx; omega
theorem lotS_zero {k f : Nat} (hf : f ≤ k) : lotS k f 0 = rl k := lt_ext (lotS_lot hf).lt (rl_lt k) fun x => by rw [mem_lotS hf, mem_rl]; omega
theorem gnS_le {k f most d : Nat} : ∀ i, gnS k f most d i ≤ k - f
  | 0 => Nat.zero_le _
  | i + 1 => by unfold gnS; omega
theorem gnS_mono {k f most d i : Nat} : gnS k f most d i ≤ gnS k f most d (i + 1) := by
  have := @gnS_le k f most d i
  conv => rhs; unfold gnS
  omega
theorem gnS_mono' {k f most d i : Nat} : ∀ n, gnS k f most d i ≤ gnS k f most d (i + n)
  | 0 => Nat.le_refl _
  | n + 1 => Nat.le_trans (gnS_mono' n) gnS_mono
theorem gnS_win {k f most d p : Nat} : ∀ n, n ≤ d → (∀ i, p ≤ i → i < p + n → i % d ≠ 0) ∧ gnS k f most d (p + n) = gnS k f most d p ∨ (∃ i, p ≤ i ∧ i < p + n ∧ i % d = 0) ∧ gnS k f most d (p + n) ≤ gnS k f most d p + most
  | 0, _ => .inl ⟨fun i h1 h2 => by omega, rfl⟩
  | n + 1, h => by
    have hl := @gnS_le k f most d (p + n)
    have e : gnS k f most d (p + (n + 1)) = min (k - f) (gnS k f most d (p + n) + if (p + n) % d = 0 then most else 0) := by
      show gnS k f most d (p + n + 1) = _
      rw [gnS]
    rcases gnS_win (k := k) (f := f) (most := most) (d := d) (p := p) n (by omega) with ⟨h1, h2⟩ | ⟨⟨i, h1, h2, h3⟩, h4⟩
    · by_cases hz : (p + n) % d = 0
      · refine .inr ⟨⟨p + n, by omega, by omega, hz⟩, ?_⟩
        rw [e, if_pos hz]; omega
      · refine .inl ⟨fun i a b => ?_, ?_⟩
        · by_cases hi : i = p + n
          · subst hi; exact hz
          · exact h1 i a (by omega)
        · rw [e, if_neg hz]; omega
    · have hz : (p + n) % d ≠ 0 := fun hz => by
        have d1 := Nat.dvd_of_mod_eq_zero hz
        have d2 := Nat.dvd_of_mod_eq_zero h3
        have d3 := Nat.dvd_sub d1 d2
        have := Nat.le_of_dvd (by omega) d3
        omega
      refine .inr ⟨⟨i, h1, by omega, h3⟩, ?_⟩
      rw [e, if_neg hz]; omega
theorem gnS_d {k f most d : Nat} (hd : 1 ≤ d) (hm : most ≤ k - f) : gnS k f most d d = most := by
  have h1 : gnS k f most d 1 = most := by
    rw [gnS, gnS]; simp; omega
  rcases @gnS_win k f most d 1 (d - 1) (by omega) with ⟨_, h2⟩ | ⟨⟨i, a, b, c⟩, _⟩
  · have e : 1 + (d - 1) = d := by omega
    rw [e] at h2
    rw [h2, h1]
  · rw [Nat.mod_eq_of_lt (by omega)] at c
    omega
def crsS (k f most d n : Nat) : List (List Int) := (List.range n).map fun i => lotS k f (gnS k f most d i)
theorem crsS_at {k f most d n i : Nat} (h : i < n) : cAt (crsS k f most d n) i = lotS k f (gnS k f most d i) := by
  unfold cAt crsS
  rw [List.getD_eq_getElem?_getD, List.getElem?_map, List.getElem?_range h]
  rfl
theorem crsS_len {k f most d n : Nat} : (crsS k f most d n).length = n := by simp [crsS]
theorem crsS_crs {k f most d n : Nat} (hk : 1 ≤ k ∧ k ≤ 24) (hf : f ≤ k) (hn : 1 ≤ n ∧ n ≤ 200) : Crs k (crsS k f most d n) := by
  refine ⟨by rw [crsS_len]; omega, fun l hl => ?_, hk, fun l hl x hx => ?_⟩
  · obtain ⟨i, _, rfl⟩ := List.mem_map.1 hl
    exact lotS_lot hf
  · obtain ⟨i, _, rfl⟩ := List.mem_map.1 hl
    have := (mem_lotS hf).1 hx
    have := @gnS_le k f most d i
    omega
theorem crsS_gap {k f most d n : Nat} (hf : f ≤ k) : gapOf (crsS k f most d n) d ≤ most := gapOf_le.2 fun p q h1 h2 h3 => by
  rw [crsS_len] at h2
  obtain ⟨m, rfl⟩ : ∃ m, q = p + m := ⟨q - p, by omega⟩
  have hw : gnS k f most d (p + m) ≤ gnS k f most d p + most := by
    rcases @gnS_win k f most d p m (by omega) with ⟨_, h⟩ | ⟨_, h⟩ <;> omega
  have hmo := @gnS_mono' k f most d p m
  unfold lk
  rw [crsS_at h2, crsS_at (by omega)]
  refine Nat.le_trans (len_le (nd_woB (lotS_lot hf).nd) (b := fromI (k + gnS k f most d p) (gnS k f most d (p + m) - gnS k f most d p)) fun x hx => ?_) (by rw [fromI_len]; omega)
  have a := mem_woB.1 hx
  have b := (mem_lotS hf).1 a.1
  have c : ¬ ((0 ≤ x ∧ x < f) ∨ ((f : Int) + gnS k f most d p ≤ x ∧ x < k + gnS k f most d p)) := fun z => a.2 ((mem_lotS hf).2 z)
  rw [mem_fromI]
  omega
theorem crsS_open {k f most d n w2 : Nat} {gn : Int} (hk : 1 ≤ k ∧ k ≤ 24) (hf : f ≤ k) (hd : 1 ≤ d) (hn : d + 1 < n) (hw : f + most ≤ w2 ∧ w2 ≤ k) (hg : gn + w2 < k + most + f) : (lineR (crsS k f most d n) (rl f) (rl w2) gn d).2.take 1 = [(d : Int)] := by
  have hg1 := @gnS_d k f most d hd (by omega)
  have e : (crsS k f most d n).drop d = lotS k f (gnS k f most d d) :: lotS k f (gnS k f most d (d + 1)) :: (crsS k f most d n).drop (d + 2) := by
    have h1 : d < (crsS k f most d n).length := by rw [crsS_len]; omega
    have h2 : d + 1 < (crsS k f most d n).length := by rw [crsS_len]; omega
    rw [List.drop_eq_getElem_cons h1, List.drop_eq_getElem_cons h2]
    simp [crsS]
  unfold lineR
  rw [e]
  simp only [lineF, lineS]
  have hB : k + most - w2 ≤ (startB (rl f) (rl w2) (lotS k f (gnS k f most d d))).length := by
    have := len_le (lt_nd (fromI_lt w2 (k + most - w2))) (b := startB (rl f) (rl w2) (lotS k f (gnS k f most d d))) fun x hx => by
      have a := mem_fromI.1 hx
      rw [mem_startB, mem_lotS hf, mem_rl, mem_rl, hg1]
      omega
    rwa [fromI_len] at this
  have hL : f ≤ (inB (lotS k f (gnS k f most d d)) (rl f)).length := by
    have := len_le (rl_nd f) (b := inB (lotS k f (gnS k f most d d)) (rl f)) fun x hx => by
      rw [mem_inB, mem_lotS hf]
      exact ⟨.inl (mem_rl.1 hx), hx⟩
    rwa [rl_len] at this
  have ho : opn (rl f) gn (lotS k f (gnS k f most d d)) (startB (rl f) (rl w2) (lotS k f (gnS k f most d d))) = true := by
    unfold opn
    rw [decide_eq_true_eq]
    omega
  rw [ho, if_pos rfl]
  rfl
end K78

namespace K78
open PySem PySem.Spec PyProof.Rows L2 Hl Vl
theorem rgD_from {a n : Nat} : rgD (a : Int) n = (fromI a n).map D.int := by
  unfold rgD fromI
  rw [List.map_map]
  refine List.map_congr_left fun i _ => ?_
  simp
theorem stairs_loop {D' : EV} {k f most d : Nat} {c4 : Cell} (hk : 1 ≤ k ∧ k ≤ 24) (hf : f ≤ k) (hd : 1 ≤ d ∧ d ≤ 100) (hmost : most ≤ 100) : ∀ (n : Nat) {i : Nat} {c7 : Cell}, i + n ≤ 200 →
    (∀ d6 d7, D'.nx [.val (.int k), .val (.int f), .val (.int most), .val (.int d), c4, .own ((crsS k f most d (i + n + 1)).map tI), d6, d7]) →
    forV (gV 7) W__law_stairs_L1 (rgD (i : Int) n) D' [.val (.int k), .val (.int f), .val (.int most), .val (.int d), c4, .own ((crsS k f most d (i + 1)).map tI), .val (.int (gnS k f most d i)), c7]
  | 0, i, c7, _, h => by simpa [rgD_zero] using h _ _
  | n + 1, i, c7, hi, h => by
    have hgl := @gnS_le k f most d i
    have e0 : crsS k f most d (i + 1 + 1) = crsS k f most d (i + 1) ++ [lotS k f (gnS k f most d (i + 1))] := by
      unfold crsS; rw [List.range_succ, List.map_append]; rfl
    have hcl : (crsS k f most d (i + 1)).length = i + 1 := crsS_len
    generalize hG : crsS k f most d (i + 1) = G at e0 hcl ⊢
    rw [rgD_succ, for_cons]
    generalize hF : forV (gV 7) W__law_stairs_L1 (rgD ((i : Int) + 1) n) D' = F
    have hst : ∀ c7, F [.val (.int k), .val (.int f), .val (.int most), .val (.int d), c4, .own ((G ++ [lotS k f (gnS k f most d (i + 1))]).map tI), .val (.int (gnS k f most d (i + 1))), c7] := fun c7 => by
      rw [← hF, ← e0]
      have := stairs_loop (D' := D') (c4 := c4) hk hf hd hmost n (i := i + 1) (c7 := c7) (by omega) (by
        have e1 : i + 1 + n + 1 = i + (n + 1) + 1 := by omega
        rw [e1]; exact h)
      simpa using this
    unfold W__law_stairs_L1
    have hgs : gnS k f most d (i + 1) = min (k - f) (gnS k f most d i + if i % d = 0 then most else 0) := by rw [gnS]
    have dm : CDivW (i : Int) (d : Int) := div_small (by omega) (by omega)
    refine seq_ev (ρ := [.val (.int k), .val (.int f), .val (.int most), .val (.int d), c4, .own (G.map tI), .val (.int (gnS k f most d i)), .val (.int i)]) (S := (· = .int (gnS k f most d (i + 1)))) ⟨fun K hk => ?_⟩ ?_
    · have h0 := hk _ rfl
      simp [dm]
      have hmod : ((i : Int) % (d : Int) = 0) ↔ i % d = 0 := by
        rw [← Int.natCast_emod]; omega
      refine ⟨by omega, fun z => ?_, fun z => ?_⟩
      · have e : min ((k : Int) - f) (((gnS k f most d i : Nat) : Int) + most) = ((gnS k f most d (i + 1) : Nat) : Int) := by
          rw [hgs, if_pos (hmod.1 z)]; omega
        rw [e]; exact h0
      · have e : min ((k : Int) - f) ((gnS k f most d i : Nat) : Int) = ((gnS k f most d (i + 1) : Nat) : Int) := by
          rw [hgs, if_neg (fun y => z (hmod.2 y))]; omega
        rw [e]; exact h0
    · rintro _ rfl
      have hg2 := @gnS_le k f most d (i + 1)
      have h0 := hst (.val (.int i))
      generalize gnS k f most d (i + 1) = gg at h0 hg2 ⊢
      have z1 : G.length < sizeLine := lt_sz (by omega)
      simp [z1]
      have en : ((k : Int) + gg - ((f : Int) + gg)).toNat = k - f := by omega
      have e1 : ((f : Int) + gg) = ((f + gg : Nat) : Int) := by omega
      have e2 : rgD 0 f ++ rgD ((f : Int) + gg) ((k : Int) + gg - ((f : Int) + gg)).toNat = (lotS k f gg).map D.int := by
        rw [en, e1, rgD_from, rgD_rl, ← List.map_append]
        rfl
      rw [e2]
      refine ⟨⟨by omega, by omega⟩, ⟨⟨by omega, by omega, by omega, by omega⟩, by omega⟩, ?_, by simpa using h0⟩
      rw [rgD_length, rgD_length]
      exact le_sz (by omega)
theorem stairs_ok {k f most d w : Nat} {Q : D → Prop} (hk : 1 ≤ k ∧ k ≤ 24) (hf : f ≤ k) (hd : 1 ≤ d ∧ d ≤ 100) (hmost : most ≤ 100) (hw : w ≤ 100) (h : Q (cD (crsS k f most d (w + 1)))) : W__law_stairs [.int k, .int f, .int most, .int d, .int w] Q := by
  have z1 : (1 : Nat) ≤ sizeLine := le_sz (by omega)
  have e0 : crsS k f most d (0 + 1) = [rl k] := by
    unfold crsS
    simp [gnS]
    exact lotS_zero hf
  have := stairs_loop (c4 := .val (.int w)) (D' := { nx := wRet (wCB gTuple (wCons (wSl 5) wNil)) { nx := fun x => Q D.non, rt := Q }, rt := Q }) hk hf hd hmost w (i := 0) (c7 := .no) (by omega) fun d6 d7 => by
    simp
    exact h
  rw [e0] at this
  simp [W__law_stairs, z1, -forV]
  refine ⟨⟨by omega, by omega⟩, by omega, ?_⟩
  rw [rgD_rl k]
  simpa [gnS, -forV] using this
end K78

namespace K78
open PySem PySem.Spec PyProof.Rows L2 Hl Vl
def W__law_some_open_R3 : WS := (wRet (wAndV (wOp gLe (wOf (wCall W__law_gap [] (wCons (wSl 10) (wCons (wSl 5) wNil)))) (wSl 1)) (wOp gEq (wOf (wSl3 (wOf (wCallK W_open_words [5, 4, 2, 0, 1, 3] (wCons (wSl 12) (wCons (wSl 13) (wCons (wOf (wC (.int 0))) (wCons (wSl 2) (wCons (wSl 11) (wCons (wSl 10) wNil)))))))) wPN (wPS (wC (.int 1))))) (wOf (wTup (wCons (wOf (wVar 5)) wNil))))))
def W__law_some_open_R2 : WS := (wSeq (wPar2 12 13 (wQc (wQv (wRgT1 (wVar 4))) (wQc (wQv (wRgT1 (wVar 8))) wQn))) W__law_some_open_R3)
def W__law_some_open_R1 : WS := (wSeq (wPar2 10 11 (wQc (wQv (wCall W__law_stairs [] (wCons (wSl 3) (wCons (wSl 4) (wCons (wSl 1) (wCons (wSl 5) (wCons (wOf (wOp gAdd (wOf (wOp gMul (wOf (wC (.int 2))) (wSl 5))) (wOf (wC (.int 1))))) wNil))))))) (wQc (wQv (wMake "Numbers" W_Numbers_init [] (wCons (wOf (wVar 3)) (wCons (wOf (wVar 4)) (wCons (wOf (wVar 5)) (wCons (wOf (wVar 6)) (wCons (wOf (wVar 7)) (wCons (wOf (wVar 8)) (wCons (wOf (wVar 9)) wNil))))))))) wQn))) W__law_some_open_R2)
theorem W__law_some_open_eq : W__law_some_open = wDef 3 14 (wSeq (wSet (wVar 0) (gTupV 7 (gConsV (gV 3) (gConsV (gV 4) (gConsV (gV 5) (gConsV (gV 6) (gConsV (gV 7) (gConsV (gV 8) (gConsV (gV 9) gNilV))))))))) (wSeq (wIf (wOr (wTst (wOp gGt (wSl 4) (wSl 8))) (wOr (wTst (wOp gGe (wOf (wOp gAdd (wSl 9) (wSl 8))) (wOf (wOp gAdd (wOf (wOp gAdd (wOf (wOp gAdd (wSl 3) (wSl 1))) (wSl 4))) (wSl 2))))) (wOr (wTst (wOp gLt (wOf (wOp gSub (wSl 8) (wSl 4))) (wSl 1))) (wTst (wOp gGt (wOf (wOp gAdd (wSl 3) (wOf (wCB gMin (wCons (wOf (wOp gSub (wSl 3) (wSl 4))) (wCons (wOf (wOp gMul (wOf (wC (.int 3))) (wSl 1))) wNil)))))) (wOf (wC (.int 23)))))))) (wRet (wC (.bl true))) wNext) W__law_some_open_R1)) := rfl
section
variable {most need k f d m w1 w2 g : Nat} {R : D → Prop} {c0 c10 c11 c12 c13 : Cell}
abbrev oSt (c0 : Cell) (most need k f d m w1 w2 g : Nat) (c10 c11 c12 c13 : Cell) : Vn := [c0, .val (.int most), .val (.int need), .val (.int k), .val (.int f), .val (.int d), .val (.int m), .val (.int w1), .val (.int w2), .val (.int g), c10, c11, c12, c13]
theorem o_cond {K : Bool → Vn → Prop} (hmost : most ≤ 100) (h : ∀ b, (b = false → f ≤ w2 ∧ g + w2 < k + most + f + need ∧ f + most ≤ w2) → K b (oSt c0 most need k f d m w1 w2 g c10 c11 c12 c13)) : (wOr (wTst (wOp gGt (wSl 4) (wSl 8))) (wOr (wTst (wOp gGe (wOf (wOp gAdd (wSl 9) (wSl 8))) (wOf (wOp gAdd (wOf (wOp gAdd (wOf (wOp gAdd (wSl 3) (wSl 1))) (wSl 4))) (wSl 2))))) (wOr (wTst (wOp gLt (wOf (wOp gSub (wSl 8) (wSl 4))) (wSl 1))) (wTst (wOp gGt (wOf (wOp gAdd (wSl 3) (wOf (wCB gMin (wCons (wOf (wOp gSub (wSl 3) (wSl 4))) (wCons (wOf (wOp gMul (wOf (wC (.int 3))) (wSl 1))) wNil)))))) (wOf (wC (.int 23)))))))) (oSt c0 most need k f d m w1 w2 g c10 c11 c12 c13) K := by
  have cm : CMulW 3 (most : Int) := mul_small (by omega) (by omega)
  have ht := h true (fun z => by cases z)
  simp [cm, ht]
  exact fun x1 x2 x3 => h _ fun _ => ⟨x1, by omega, by omega⟩
theorem o_ret (hN : Nm k f d m w1 w2 g) (hmost : most ≤ 12) (ho : f ≤ w2 ∧ g + w2 < k + most + f + need ∧ f + most ≤ w2) (h : R (.bl true)) : (wRet (wAndV (wOp gLe (wOf (wCall W__law_gap [] (wCons (wSl 10) (wCons (wSl 5) wNil)))) (wSl 1)) (wOp gEq (wOf (wSl3 (wOf (wCallK W_open_words [5, 4, 2, 0, 1, 3] (wCons (wSl 12) (wCons (wSl 13) (wCons (wOf (wC (.int 0))) (wCons (wSl 2) (wCons (wSl 11) (wCons (wSl 10) wNil)))))))) wPN (wPS (wC (.int 1))))) (wOf (wTup (wCons (wOf (wVar 5)) wNil)))))) { nx := fun _ => R .non, rt := R } (oSt c0 most need k f d m w1 w2 g (.val (cD (crsS k f most d (2 * d + 1 + 1)))) (.val (numO k f d m w1 w2 g)) (.val (tI (rl f))) (.val (tI (rl w2)))) := by
  have h1 := hN.hk
  have h2 := hN.hf
  have h3 := hN.hd
  have h6 := hN.hw2
  have hC : Crs k (crsS k f most d (2 * d + 1 + 1)) := crsS_crs (by omega) h2 (by omega)
  have hg := @crsS_gap k f most d (2 * d + 1 + 1) h2
  have hop := @crsS_open k f most d (2 * d + 1 + 1) w2 ((g : Int) - need) (by omega) h2 (by omega) (by omega) ⟨by omega, h6.2⟩ (by omega)
  generalize crsS k f most d (2 * d + 1 + 1) = c at hC hg hop ⊢
  simp [reo]
  refine law_gap_ok hC ?_
  have hle : ((gapOf c d : Nat) : Int) ≤ most := by omega
  simp [hg, reo]
  refine open_words_ok hC.cls num_g num_d (s := d) (by omega) ?_
  have z1 : (1 : Nat) ≤ sizeLine := le_sz (by omega)
  have ct : cutD ((lineR c (rl f) (rl w2) ((g : Int) - need) d).2.map D.int) none (some 1) = [(d : Int)].map D.int := by
    rw [← hop, List.map_take]
    exact cut_take (n := 1)
  have e1 : D.eqv (.tup ([(d : Int)].map D.int)) (.tup [.int d]) = true := by
    have := eqv_tI (a := [(d : Int)]) (b := [(d : Int)])
    simpa using this
  have e2 := dat_tI (a := [(d : Int)])
  simp only [ct]
  refine ⟨z1, ⟨e2, e2⟩, ?_⟩
  rw [e1]
  exact h
theorem some_open_ok (hN : Nm k f d m w1 w2 g) (hmost : most ≤ 12) (h : R (.bl true)) : W__law_some_open [.tup [.int k, .int f, .int d, .int m, .int w1, .int w2, .int g], .int most, .int need] R := by
  have h1 := hN.hk
  have h2 := hN.hf
  have h3 := hN.hd
  have h4 := hN.hm
  have h5 := hN.hw1
  have h6 := hN.hw2
  have h7 := hN.hg
  rw [W__law_some_open_eq]
  have un : ∀ (z : WS) (D' : EV) (ρ : Vn), z D' (((((((ρ.set 3 (.val (.int k))).set 4 (.val (.int f))).set 5 (.val (.int d))).set 6 (.val (.int m))).set 7 (.val (.int w1))).set 8 (.val (.int w2))).set 9 (.val (.int g))) → ρ.getD 0 .no = .val (.tup [.int k, .int f, .int d, .int m, .int w1, .int w2, .int g]) → wSeq (wSet (wVar 0) (gTupV 7 (gConsV (gV 3) (gConsV (gV 4) (gConsV (gV 5) (gConsV (gV 6) (gConsV (gV 7) (gConsV (gV 8) (gConsV (gV 9) gNilV))))))))) z D' ρ := fun z D' ρ hz h1 => by
    unfold wSeq wSet wVar
    rw [h1]
    simpa using hz
  refine ⟨rfl, ?_⟩
  refine un _ _ _ ?_ rfl
  have hrest : f ≤ w2 ∧ g + w2 < k + most + f + need ∧ f + most ≤ w2 → W__law_some_open_R1 { nx := fun _ => R .non, rt := R } (oSt (.val (.tup [.int k, .int f, .int d, .int m, .int w1, .int w2, .int g])) most need k f d m w1 w2 g .no .no .no .no) := fun ho => by
    unfold W__law_some_open_R1
    refine par2_ev (S := (· = cD (crsS k f most d (2 * d + 1 + 1)))) (S' := (· = numO k f d m w1 w2 g)) ⟨fun K hk => ?_⟩ ⟨fun K hk => ?_⟩ ?_
    · have cm : CMulW 2 (d : Int) := mul_small (by omega) (by omega)
      have e : (2 : Int) * (d : Int) + 1 = ((2 * d + 1 : Nat) : Int) := by omega
      simp [cm]
      rw [e]
      exact stairs_ok (by omega) h2 (by omega) (by omega) (by omega) (hk _ rfl)
    · simp
      refine numbers_ok (by omega) (by omega) (by omega) (by omega) (by omega) (by omega) (by omega) ?_
      exact hk _ rfl
    rintro _ _ rfl rfl
    unfold W__law_some_open_R2
    refine par2_ev (S := (· = tI (rl f))) (S' := (· = tI (rl w2))) ⟨fun K hk => ?_⟩ ⟨fun K hk => ?_⟩ ?_
    · simp
      rw [rgD_rl]
      exact ⟨⟨by omega, by omega⟩, hk _ rfl⟩
    · simp
      rw [rgD_rl]
      exact ⟨⟨by omega, by omega⟩, hk _ rfl⟩
    rintro _ _ rfl rfl
    exact o_ret hN hmost ho h
  refine seq_ifd (ρ := oSt (.val (.tup [.int k, .int f, .int d, .int m, .int w1, .int w2, .int g])) most need k f d m w1 w2 g .no .no .no .no) (P := fun b => b = false → f ≤ w2 ∧ g + w2 < k + most + f + need ∧ f + most ≤ w2) (fun K hk => o_cond (by omega) hk) (fun _ => h) fun z => hrest (z rfl)
end
end K78

namespace K78
open PySem PySem.Spec PyProof.Rows L2 Hl Vl
def W__law_borders_right_R9 : WS := (wSeq (wFor (wIt (wOf (wFz (wLst (wCons (wOf (wTup (wCons (wOf (wVar 7)) (wCons (wOf (wC (.bl false))) wNil)))) (wCons (wOf (wTup (wCons (wOf (wCB gTuple (wCons (wOf (wFz (wLc (wIt (wSl 7)) (gV 10) wYes (wSl3 (wSl 10) (wPS (wC (.int 1))) wPN) [10]))) wNil))) (wCons (wOf (wC (.bl true))) wNil)))) wNil)))))) (gTupV 2 (gConsV (gV 8) (gConsV (gV 9) gNilV))) W__law_borders_right_L1) (wRet (wC (.bl true))))
def W__law_borders_right_R8 : WS := (wSeq (wSet (wTup (wCons (wOf (wRgT1 (wVar 5))) (wCons (wOf (wRgT (wVar 2) (wOp gAdd (wSl 5) (wSl 2)))) wNil))) (gV 7)) W__law_borders_right_R9)
def W__law_borders_right_R7 : WS := (wSeq (wIf (wOr (wTst (wOp gEq (wOf (wCall W_least_triples [] (wCons (wSl 5) (wCons (wSl 1) (wCons (wSl 3) (wCons (wSl 2) (wCons (wOf (wOp gSub (wSl 5) (wSl 1))) wNil))))))) (wOf (wTup wNil)))) (wAnd (wTst (wOp gGt (wSl 2) (wOf (wC (.int 0))))) (wAnd (wTst (wOp gGt (wSl 5) (wOf (wC (.int 1))))) (wAnd (wTst (wOp gLt (wSl 1) (wOf (wOp gSub (wSl 5) (wOf (wC (.int 1))))))) (wAnd (wTst (wOp gNe (wOf (wCall W_least_triples [] (wCons (wOf (wOp gSub (wSl 5) (wOf (wC (.int 1))))) (wCons (wSl 1) (wCons (wSl 3) (wCons (wSl 2) (wCons (wOf (wOp gSub (wOf (wOp gSub (wSl 5) (wOf (wC (.int 1))))) (wSl 1))) wNil))))))) (wOf (wTup wNil)))) (wTst (wOp gLe (wSl 3) (wOf (wOp gSub (wSl 5) (wOf (wC (.int 1)))))))))))) (wRet (wC (.bl false))) wNext) W__law_borders_right_R8)
def W__law_borders_right_R6 : WS := (wSeq (wIf (wOr (wTst (wOp gNotB (wOf (wCall W_sees_with_ends [] (wCons (wSl 6) (wCons (wSl 2) wNil)))) (wOf (wC (.bl true))))) (wTst (wOp gGt (wOf (wOp gIx (wOf (wCall W_least_asked [] (wCons (wSl 6) (wCons (wSl 2) wNil)))) (wOf (wC (.int 1))))) (wOf (wOp gSub (wSl 5) (wSl 1)))))) (wRet (wC (.bl false))) wNext) W__law_borders_right_R7)
def W__law_borders_right_R5 : WS := (wSeq (wIf (wOr (wNot (wTru (wOf (wIsiO ["Numbers", "Thin"] "Numbers" (wSl 6))))) (wOr (wTst (wOp gNe (wOf (wFld "k" (wVar 6))) (wSl 5))) (wOr (wTst (wOp gNotB (wOf (wCall W_is_single [] (wCons (wSl 6) (wCons (wSl 2) wNil)))) (wOf (wC (.bl true))))) (wOr (wTst (wOp gNotB (wOf (wCall W_is_lasting [] (wCons (wSl 6) (wCons (wSl 2) wNil)))) (wOf (wC (.bl true))))) (wTst (wOp gNotB (wOf (wCall W_can_end [] (wCons (wSl 6) wNil))) (wOf (wC (.bl true))))))))) (wRet (wC (.bl false))) wNext) W__law_borders_right_R6)
def W__law_borders_right_R4 : WS := (wSeq (wIf (wTst (wOp gGt (wSl 5) (wOf (wC (.int 12))))) (wRet (wOp gIsN (wSl 6) (wOf (wC .non)))) wNext) W__law_borders_right_R5)
def W__law_borders_right_R3 : WS := (wSeq (wSet (wCall W_least_numbers [] (wCons (wSl 1) (wCons (wSl 2) (wCons (wSl 4) (wCons (wSl 3) wNil))))) (gV 6)) W__law_borders_right_R4)
def W__law_borders_right_R2 : WS := (wSeq (wIf (wNot (wTru (wOf (wCall W__law_like [] (wCons (wOf (wCall W_least_counts [] (wCons (wSl 1) (wCons (wSl 2) (wCons (wSl 3) wNil))))) (wCons (wOf (wTup (wCons (wOf (wVar 5)) (wCons (wOf (wIfE (wTst (wOp gGt (wSl 2) (wOf (wC (.int 0))))) (wOp gAdd (wOf (wOp gAdd (wOf (wOp gMul (wOf (wC (.int 2))) (wSl 1))) (wSl 2))) (wSl 3)) (wC (.int 1)))) (wCons (wOf (wOp gAdd (wOf (wOp gAdd (wOf (wOp gMul (wOf (wC (.int 2))) (wSl 1))) (wSl 2))) (wSl 3))) wNil))))) wNil)))))) (wRet (wC (.bl false))) wNext) W__law_borders_right_R3)
def W__law_borders_right_R1 : WS := (wSeq (wIf (wNot (wTru (wOf (wCall W__law_like [] (wCons (wOf (wTup (wCons (wOf (wCall W_least_copies [] (wCons (wSl 1) (wCons (wSl 2) (wCons (wSl 3) (wCons (wOf (wC (.bl true))) wNil)))))) (wCons (wOf (wCall W_least_copies [] (wCons (wSl 1) (wCons (wSl 2) (wCons (wSl 3) (wCons (wOf (wC (.bl false))) wNil)))))) (wCons (wOf (wCall W_plain_copies [] (wCons (wSl 1) (wCons (wSl 2) (wCons (wSl 3) wNil))))) wNil))))) (wCons (wOf (wTup (wCons (wOf (wVar 5)) (wCons (wOf (wOp gAdd (wSl 5) (wSl 1))) (wCons (wOf (wOp gAdd (wSl 5) (wSl 1))) wNil))))) wNil)))))) (wRet (wC (.bl false))) wNext) W__law_borders_right_R2)
theorem W__law_borders_right_eq : W__law_borders_right = wDef 5 11 (wSeq (wSet (wOp gAdd (wOf (wOp gAdd (wOf (wOp gMul (wOf (wC (.int 3))) (wSl 1))) (wSl 2))) (wSl 3)) (gV 5)) W__law_borders_right_R1) := rfl
section
variable {f s m d k : Nat} {R : D → Prop} {K : Bool → Vn → Prop} {c6 c7 c8 c9 : Cell}
abbrev pSt (f s m d k : Nat) (c6 c7 c8 c9 : Cell) : Vn := [.val .hnd, .val (.int f), .val (.int s), .val (.int m), .val (.int d), .val (.int k), c6, c7, c8, c9, .no]
structure Bd (f s m d k : Nat) : Prop where
  hf : f ≤ 3
  hs : s ≤ 3
  hm : 1 ≤ m ∧ m ≤ 6
  hd : 1 ≤ d ∧ d ≤ 20
  hk : k = 3 * f + s + m
abbrev gOf (f s m : Nat) : Nat := if 0 < s then 2 * f + s + m else 1
theorem b_t1 (hB : Bd f s m d k) (h : K false (pSt f s m d k c6 c7 c8 c9)) : (wNot (wTru (wOf (wCall W__law_like [] (wCons (wOf (wTup (wCons (wOf (wCall W_least_copies [] (wCons (wSl 1) (wCons (wSl 2) (wCons (wSl 3) (wCons (wOf (wC (.bl true))) wNil)))))) (wCons (wOf (wCall W_least_copies [] (wCons (wSl 1) (wCons (wSl 2) (wCons (wSl 3) (wCons (wOf (wC (.bl false))) wNil)))))) (wCons (wOf (wCall W_plain_copies [] (wCons (wSl 1) (wCons (wSl 2) (wCons (wSl 3) wNil))))) wNil))))) (wCons (wOf (wTup (wCons (wOf (wVar 5)) (wCons (wOf (wOp gAdd (wSl 5) (wSl 1))) (wCons (wOf (wOp gAdd (wSl 5) (wSl 1))) wNil))))) wNil)))))) (pSt f s m d k c6 c7 c8 c9) K := by
  have h1 := hB.hf
  have hk := hB.hk
  have c3 : CMulW 3 (f : Int) := mul_small (by omega) (by omega)
  have c4 : CMulW 4 (f : Int) := mul_small (by omega) (by omega)
  have z3 : (3 : Nat) ≤ sizeLine := le_sz (by omega)
  simp [W_least_copies, W_share_of, W_plain_copies, c3, c4, z3]
  have e1 : (3 : Int) * f + s + m = k := by omega
  have e2 : (4 : Int) * f + s + m = k + f := by omega
  rw [e1, e2]
  exact like_tI (n := 2) (l := [_, _, _]) (by simp) h
theorem b_t2 (hB : Bd f s m d k) (h : K false (pSt f s m d k c6 c7 c8 c9)) : (wNot (wTru (wOf (wCall W__law_like [] (wCons (wOf (wCall W_least_counts [] (wCons (wSl 1) (wCons (wSl 2) (wCons (wSl 3) wNil))))) (wCons (wOf (wTup (wCons (wOf (wVar 5)) (wCons (wOf (wIfE (wTst (wOp gGt (wSl 2) (wOf (wC (.int 0))))) (wOp gAdd (wOf (wOp gAdd (wOf (wOp gMul (wOf (wC (.int 2))) (wSl 1))) (wSl 2))) (wSl 3)) (wC (.int 1)))) (wCons (wOf (wOp gAdd (wOf (wOp gAdd (wOf (wOp gMul (wOf (wC (.int 2))) (wSl 1))) (wSl 2))) (wSl 3))) wNil))))) wNil)))))) (pSt f s m d k c6 c7 c8 c9) K := by
  have h1 := hB.hf
  have hk := hB.hk
  have c2 : CMulW 2 (f : Int) := mul_small (by omega) (by omega)
  have z3 : (3 : Nat) ≤ sizeLine := le_sz (by omega)
  have e1 : (f : Int) + (2 * (f : Int) + s + m) = k := by omega
  simp [W_least_counts, c2, z3, e1]
  exact ⟨fun _ => ⟨fun _ => like_tI (n := 2) (l := [_, _, _]) (by simp) h, fun z => by omega⟩, fun _ => ⟨fun z => by omega, fun _ => like_tI (n := 2) (l := [_, 1, _]) (by simp) h⟩⟩
def bestD (f s m d k : Nat) : D := if k ≤ 12 then numO k f d m ((k : Int) - f) ((k : Int) - f) (gOf f s m : Nat) else .non
theorem b_num (hB : Bd f s m d k) {Q : D → Prop} (h : Q (bestD f s m d k)) : W_least_numbers [.int f, .int s, .int d, .int m] Q := by
  have h1 := hB.hf
  have h2 := hB.hs
  have h3 := hB.hm
  have h4 := hB.hd
  have hk := hB.hk
  have c2 : CMulW 2 (f : Int) := mul_small (by omega) (by omega)
  have z3 : (3 : Nat) ≤ sizeLine := le_sz (by omega)
  have e1 : (f : Int) + (2 * (f : Int) + s + m) = k := by omega
  simp [W_least_numbers, W_least_counts, c2, z3, e1]
  unfold bestD at h
  refine ⟨fun p => ⟨fun q => ?_, fun q => ?_⟩, fun p => ⟨fun q => ?_, fun q => ?_⟩⟩
  · rw [if_pos (by omega)] at h
    have e : ((gOf f s m : Nat) : Int) = 2 * f + s + m := by unfold gOf; rw [if_pos p]; omega
    rw [e] at h
    exact numbers_ok (by omega) (by omega) (by omega) (by omega) (by omega) (by omega) (by omega) h
  · rwa [if_neg (by omega)] at h
  · rw [if_pos (by omega)] at h
    have e : ((gOf f s m : Nat) : Int) = 1 := by unfold gOf; rw [if_neg (by omega)]; rfl
    rw [e] at h
    exact numbers_ok (by omega) (by omega) (by omega) (by omega) (by omega) (by omega) (by omega) h
  · rwa [if_neg (by omega)] at h
abbrev bD (f s m d k : Nat) : D := numO k f d m ((k : Int) - f) ((k : Int) - f) (gOf f s m : Nat)
theorem gOf_facts (hB : Bd f s m d k) (hk : k ≤ 12) : (0 < s → gOf f s m = 2 * f + s + m) ∧ (s = 0 → gOf f s m = 1) := by
  unfold gOf
  constructor
  · intro h; rw [if_pos h]
  · intro h; rw [if_neg (by omega)]
theorem b_single (hB : Bd f s m d k) (hk : k ≤ 12) {Q : D → Prop} (h : Q (.bl true)) : W_is_single [bD f s m d k, .int s] Q := by
  have h1 := hB.hf
  have h2 := hB.hs
  have h3 := hB.hm
  have h5 := hB.hk
  obtain ⟨g1, g2⟩ := gOf_facts hB hk
  refine (single_iff (by omega)).2 ?_
  have e : (decide ((0 : Int) < 2 * ((k : Int) - f) - k - s - f) && (decide ((s : Int) = 0) || decide ((0 : Int) < (gOf f s m : Nat) + ((k : Int) - f) - k - s - f))) = true := by
    rw [Bool.and_eq_true, Bool.or_eq_true, decide_eq_true_eq, decide_eq_true_eq, decide_eq_true_eq]
    refine ⟨by omega, ?_⟩
    by_cases h0 : s = 0
    · left; omega
    · right; have := g1 (by omega); omega
  rw [e]
  exact h
theorem b_lasting (hB : Bd f s m d k) (hk : k ≤ 12) {Q : D → Prop} (h : Q (.bl true)) : W_is_lasting [bD f s m d k, .int s] Q := by
  have h1 := hB.hf
  have h2 := hB.hs
  have h3 := hB.hm
  have h5 := hB.hk
  obtain ⟨g1, g2⟩ := gOf_facts hB hk
  refine lasting_iff.2 ?_
  by_cases h0 : s = 0
  · rw [if_pos (by omega), decide_eq_true (by omega)]
    exact h
  · have := g1 (by omega)
    rw [if_neg (by omega), decide_eq_true (by omega)]
    exact h
theorem b_ends (hB : Bd f s m d k) (hk : k ≤ 12) {Q : D → Prop} (h : Q (.bl true)) : W_can_end [bD f s m d k] Q := by
  have h1 := hB.hf
  have h2 := hB.hs
  have h3 := hB.hm
  have h5 := hB.hk
  obtain ⟨g1, g2⟩ := gOf_facts hB hk
  have hg : gOf f s m ≤ k - f := by
    by_cases h0 : s = 0
    · have := g2 h0; omega
    · have := g1 (by omega); omega
  refine can_end_iff.2 ?_
  rw [decide_eq_true (by omega)]
  exact h
theorem b_t5 (hB : Bd f s m d k) (hk : k ≤ 12) (h : K false (pSt f s m d k (.val (bD f s m d k)) c7 c8 c9)) : (wOr (wNot (wTru (wOf (wIsiO ["Numbers", "Thin"] "Numbers" (wSl 6))))) (wOr (wTst (wOp gNe (wOf (wFld "k" (wVar 6))) (wSl 5))) (wOr (wTst (wOp gNotB (wOf (wCall W_is_single [] (wCons (wSl 6) (wCons (wSl 2) wNil)))) (wOf (wC (.bl true))))) (wOr (wTst (wOp gNotB (wOf (wCall W_is_lasting [] (wCons (wSl 6) (wCons (wSl 2) wNil)))) (wOf (wC (.bl true))))) (wTst (wOp gNotB (wOf (wCall W_can_end [] (wCons (wSl 6) wNil))) (wOf (wC (.bl true))))))))) (pSt f s m d k (.val (bD f s m d k)) c7 c8 c9) K := by
  simp
  refine b_single hB hk ?_
  simp
  refine b_lasting hB hk ?_
  simp
  refine b_ends hB hk ?_
  simpa using h
theorem b_asked (hB : Bd f s m d k) (hk : k ≤ 12) {Q : D → Prop} (h : Q (.tup [.int ((k : Int) - f), .int ((k : Int) - f)])) : W_least_asked [bD f s m d k, .int s] Q := by
  have h1 := hB.hf
  have h2 := hB.hs
  have h3 := hB.hm
  have h5 := hB.hk
  have z2 : (2 : Nat) ≤ sizeLine := le_sz (by omega)
  obtain ⟨g1, g2⟩ := gOf_facts hB hk
  simp [W_least_asked, W_bound_of, z2]
  have e : (k : Int) + s + f + m - ((k : Int) - f) = k - f := by omega
  simp only [e]
  refine ⟨fun p => ⟨fun _ => ⟨fun _ => h, fun z => by omega⟩, fun z => by omega⟩, fun p => ?_⟩
  have g3 := g1 (by omega)
  have e2 : max ((k : Int) - f) ((k : Int) + s + f + 1 - (gOf f s m : Nat)) = k - f := by omega
  simp only [e2]
  exact ⟨fun _ => ⟨fun _ => h, fun z => by omega⟩, fun z => by omega⟩
theorem b_t6 (hB : Bd f s m d k) (hk : k ≤ 12) (h : K false (pSt f s m d k (.val (bD f s m d k)) c7 c8 c9)) : (wOr (wTst (wOp gNotB (wOf (wCall W_sees_with_ends [] (wCons (wSl 6) (wCons (wSl 2) wNil)))) (wOf (wC (.bl true))))) (wTst (wOp gGt (wOf (wOp gIx (wOf (wCall W_least_asked [] (wCons (wSl 6) (wCons (wSl 2) wNil)))) (wOf (wC (.int 1))))) (wOf (wOp gSub (wSl 5) (wSl 1)))))) (pSt f s m d k (.val (bD f s m d k)) c7 c8 c9) K := by
  have a1 : ∀ x y : D, atI [x, y] 1 = some y := fun x y => rfl
  simp [W_sees_with_ends]
  refine b_asked hB hk ?_
  simp [a1]
  refine b_asked hB hk ?_
  simp [a1]
  exact h
end
end K78

namespace K78
open PySem PySem.Spec PyProof.Rows L2 Hl Vl
section
variable {f s m d k : Nat} {R : D → Prop} {K : Bool → Vn → Prop} {c6 c7 c8 c9 : Cell}
theorem tri_full (hB : Bd f s m d k) (hk : k ≤ 12) {Q : D → Prop} (h : ∀ a b c : Int, Q (.tup [tI [a, b, c]])) : W_least_triples [.int k, .int f, .int m, .int s, .int ((k : Int) - f)] Q := by
  have h1 := hB.hf
  have h2 := hB.hs
  have h3 := hB.hm
  have h5 := hB.hk
  have z3 : (3 : Nat) ≤ sizeLine := le_sz (by omega)
  have z1 : (1 : Nat) ≤ sizeLine := le_sz (by omega)
  have d2 : ∀ i : Int, CDivW i 2 := fun i => div_small (by omega) (by omega)
  simp [W_least_triples, d2, z3, z1]
  refine ⟨fun z => by omega, fun _ => ⟨fun p => ⟨fun _ => h _ _ _, fun z => by omega⟩, fun p => ⟨⟨by omega, by omega, by omega, by omega⟩, ?_⟩⟩⟩
  have e : ((k : Int) - f + 1 - ((k : Int) + s + f + m - ((k : Int) - f))).toNat = 1 := by omega
  rw [e, rgD_succ, rgD_zero]
  simp [z3]
  exact ⟨lt_sz (by omega), h _ _ _⟩
theorem tri_less (hB : Bd f s m d k) (hk : k ≤ 12) (hs : 0 < s) {Q : D → Prop} (h : Q (.tup [])) : W_least_triples [.int ((k : Int) - 1), .int f, .int m, .int s, .int ((k : Int) - 1 - f)] Q := by
  have h1 := hB.hf
  have h2 := hB.hs
  have h3 := hB.hm
  have h5 := hB.hk
  have z3 : (3 : Nat) ≤ sizeLine := le_sz (by omega)
  have z1 : (1 : Nat) ≤ sizeLine := le_sz (by omega)
  have d2 : ∀ i : Int, CDivW i 2 := fun i => div_small (by omega) (by omega)
  simp [W_least_triples, d2, z3, z1]
  refine ⟨fun _ => h, fun _ => ⟨fun p => by omega, fun p => ⟨⟨by omega, by omega, by omega, by omega⟩, ?_⟩⟩⟩
  have e : ((k : Int) - 1 - f + 1 - ((k : Int) - 1 + s + f + m - ((k : Int) - 1 - f))).toNat = 0 := by omega
  rw [e, rgD_zero]
  simp
  exact h
theorem evL (hB : Bd f s m d k) (hk : k ≤ 12) (hs : 0 < s) : Ev (wCall W_least_triples [] (wCons (wOf (wOp gSub (wSl 5) (wOf (wC (.int 1))))) (wCons (wSl 1) (wCons (wSl 3) (wCons (wSl 2) (wCons (wOf (wOp gSub (wOf (wOp gSub (wSl 5) (wOf (wC (.int 1))))) (wSl 1))) wNil)))))) (pSt f s m d k c6 c7 c8 c9) (· = .tup []) := by
  have e1 : Ev (wOp gSub (wSl 5) (wOf (wC (.int 1)))) (pSt f s m d k c6 c7 c8 c9) (· = .int ((k : Int) - 1)) := ⟨fun K h => by simp; exact h _ rfl⟩
  have e2 : Ev (wOp gSub (wOf (wOp gSub (wSl 5) (wOf (wC (.int 1))))) (wSl 1)) (pSt f s m d k c6 c7 c8 c9) (· = .int ((k : Int) - 1 - f)) := ⟨fun K h => by simp; exact h _ rfl⟩
  exact Ev.call (ds := [.int ((k : Int) - 1), .int f, .int m, .int s, .int ((k : Int) - 1 - f)]) (.of e1 (.sl rfl (.sl rfl (.sl rfl (.of e2 .nil))))) (fun k h => h) (fun Q h => tri_less hB hk hs (h _ rfl)) (fun r hr => by subst hr; rfl)
theorem evF' (hB : Bd f s m d k) (hk : k ≤ 12) : Ev (wCall W_least_triples [] (wCons (wSl 5) (wCons (wSl 1) (wCons (wSl 3) (wCons (wSl 2) (wCons (wOf (wOp gSub (wSl 5) (wSl 1))) wNil)))))) (pSt f s m d k c6 c7 c8 c9) (fun x => ∃ a b c : Int, x = .tup [tI [a, b, c]]) := by
  have e2 : Ev (wOp gSub (wSl 5) (wSl 1)) (pSt f s m d k c6 c7 c8 c9) (· = .int ((k : Int) - f)) := ⟨fun K h => by simp; exact h _ rfl⟩
  exact Ev.call (ds := [.int k, .int f, .int m, .int s, .int ((k : Int) - f)]) (.sl rfl (.sl rfl (.sl rfl (.sl rfl (.of e2 .nil))))) (fun k h => h) (fun Q h => tri_full hB hk fun a b c => h _ ⟨a, b, c, rfl⟩) (fun r hr => by obtain ⟨a, b, c, rfl⟩ := hr; rfl)
theorem b_t7 (hB : Bd f s m d k) (hk : k ≤ 12) : Tv (wOr (wTst (wOp gEq (wOf (wCall W_least_triples [] (wCons (wSl 5) (wCons (wSl 1) (wCons (wSl 3) (wCons (wSl 2) (wCons (wOf (wOp gSub (wSl 5) (wSl 1))) wNil))))))) (wOf (wTup wNil)))) (wAnd (wTst (wOp gGt (wSl 2) (wOf (wC (.int 0))))) (wAnd (wTst (wOp gGt (wSl 5) (wOf (wC (.int 1))))) (wAnd (wTst (wOp gLt (wSl 1) (wOf (wOp gSub (wSl 5) (wOf (wC (.int 1))))))) (wAnd (wTst (wOp gNe (wOf (wCall W_least_triples [] (wCons (wOf (wOp gSub (wSl 5) (wOf (wC (.int 1))))) (wCons (wSl 1) (wCons (wSl 3) (wCons (wSl 2) (wCons (wOf (wOp gSub (wOf (wOp gSub (wSl 5) (wOf (wC (.int 1))))) (wSl 1))) wNil))))))) (wOf (wTup wNil)))) (wTst (wOp gLe (wSl 3) (wOf (wOp gSub (wSl 5) (wOf (wC (.int 1)))))))))))) (pSt f s m d k c6 c7 c8 c9) false := by
  have e0 : D.eqv (.tup []) (.tup []) = true := rfl
  have e1 : ∀ x : D, D.eqv (.tup [x]) (.tup []) = false := fun x => rfl
  have d0 : D.dat dmax (.tup []) = true := rfl
  have d1 : ∀ x : D, x.dat 7 = true → D.dat dmax (.tup [x]) = true := fun x hx => by
    show [x].all (D.dat 7) = true
    simp [hx]
  refine Tv.or_f (Tv.tst (Ev.op (evF' hB hk) (Ev.nilT (S := (· = .tup [])) rfl) fun a b ha hb K hK => ?_)) ?_
  · obtain ⟨x, y, z, rfl⟩ := ha
    subst hb
    refine ⟨⟨d1 _ (show (tI [x, y, z]).dat 7 = true from rfl), d0⟩, hK _ ?_⟩
    rw [e1]
  by_cases hs : 0 < s
  · refine Tv.and_t (fun K h => ?_) ?_
    · have : (0 : Int) < (s : Int) := by omega
      simp [this, hs]
      exact h
    by_cases hk1 : 1 < k
    · refine Tv.and_t (fun K h => ?_) ?_
      · have : (1 : Int) < (k : Int) := by omega
        simp [this, hk1]
        exact h
      by_cases hf : (f : Int) < (k : Int) - 1
      · refine Tv.and_t (fun K h => ?_) (Tv.and_f (Tv.tst (Ev.op (evL hB hk hs) (Ev.nilT (S := (· = .tup [])) rfl) fun a b ha hb K hK => ?_)))
        · simp [hf]
          exact h
        · subst ha hb
          exact ⟨⟨d0, d0⟩, hK _ (by rw [e0]; rfl)⟩
      · refine Tv.and_f fun K h => ?_
        simp [hf]
        exact h
    · refine Tv.and_f fun K h => ?_
      have : ¬ (1 : Int) < (k : Int) := by omega
      simp [this, hk1]
      exact h
  · refine Tv.and_f fun K h => ?_
    have : ¬ (0 : Int) < (s : Int) := by omega
    simp [this, hs]
    exact h
end
end K78

namespace K78
open PySem PySem.Spec PyProof.Rows L2 Hl Vl
section
variable {f s m d k : Nat} {R : D → Prop} {K : Bool → Vn → Prop} {c6 c7 c8 c9 : Cell}
theorem two_at {a b : List Int} : cAt [a, b] 0 = a ∧ cAt [a, b] 1 = b := ⟨rfl, rfl⟩
theorem from_lot {a n : Nat} : Lot n (fromI a n) := ⟨fromI_len, fromI_lt a n, fun x hx => by have := mem_fromI.1 hx; omega⟩
theorem two_crs {K a b : Nat} (hK : 1 ≤ K ∧ K ≤ 24) (ha : a + K ≤ 60) (hb : b + K ≤ 60) : Crs K [fromI a K, fromI b K] := by
  refine ⟨by simp, fun l hl => ?_, hK, fun l hl x hx => ?_⟩
  · simp at hl
    rcases hl with rfl | rfl <;> exact from_lot
  · simp at hl
    rcases hl with rfl | rfl
    · have := mem_fromI.1 hx; omega
    · have := mem_fromI.1 hx; omega
theorem gap_le {K a s : Nat} : gapOf [fromI a K, fromI (a + s) K] 1 ≤ s := gapOf_le.2 fun p q h1 h2 h3 => by
  simp at h2
  have hc : (p = 0 ∧ q = 0) ∨ (p = 0 ∧ q = 1) ∨ (p = 1 ∧ q = 1) := by omega
  rcases hc with ⟨rfl, rfl⟩ | ⟨rfl, rfl⟩ | ⟨rfl, rfl⟩
  · rw [lk_self]; omega
  · unfold lk
    rw [two_at.1, two_at.2]
    refine Nat.le_trans (len_le (nd_woB (lt_nd (fromI_lt _ _))) (b := fromI (a + K) s) fun x hx => ?_) (by rw [fromI_len]; omega)
    have h := mem_woB.1 hx
    have h1 := mem_fromI.1 h.1
    have h2 : ¬ ((a : Int) ≤ x ∧ x < a + K) := fun z => h.2 (mem_fromI.2 z)
    rw [mem_fromI]
    omega
  · rw [lk_self]; omega
theorem le_gap {K a s : Nat} (hs : s ≤ K) : s ≤ gapOf [fromI a K, fromI (a + s) K] 1 := by
  have h := gapOf_le.1 (Nat.le_refl (gapOf [fromI a K, fromI (a + s) K] 1)) 0 1 (by omega) (by simp) (by omega)
  refine Nat.le_trans ?_ h
  unfold lk
  rw [two_at.1, two_at.2]
  have := len_le (lt_nd (fromI_lt (a + K) s)) (b := woB (fromI (a + s) K) (fromI a K)) fun x hx => by
    have h1 := mem_fromI.1 hx
    have h2 : ¬ ((a : Int) ≤ x ∧ x < a + K) := by omega
    rw [mem_woB, mem_fromI, mem_fromI]
    exact ⟨by omega, h2⟩
  rwa [fromI_len] at this
theorem t_gt {K : Nat} {a b : Nat} : Tv (wTst (wOp gGt (wOf (wCB gLen (wCons (wOf (wOp gIx (wSl 8) (wOf (wC (.int 0))))) wNil))) (wSl 1))) (pSt f s m d k c6 c7 (.val (cD [fromI a K, fromI b K])) c9) (decide (f < K)) := fun Kk h => by
  have a0 : atI [tI (fromI a K), tI (fromI b K)] 0 = some (tI (fromI a K)) := rfl
  simp [a0, fromI_len]
  simpa using h
theorem t_ne {KK : Nat} {a b : Nat} {th : Bool} (hf : f ≤ KK) (hm : 1 ≤ m ∧ m ≤ 6) (hf3 : f ≤ 3) (hC : Crs KK [fromI a KK, fromI b KK]) (hth : (thR [fromI a KK, fromI b KK] (KK - f) 1 (f + m - 1)).isSome = th) : Tv (wTst (wOp gNe (wOf (wIsiO ["Numbers", "Thin"] "Thin" (wOf (wCall W_thin_of [] (wCons (wSl 8) (wCons (wSl 1) (wCons (wOf (wC (.int 1))) (wCons (wOf (wCall W_most_common [] (wCons (wSl 1) (wCons (wSl 3) (wCons (wOf (wC (.bl true))) wNil))))) wNil)))))))) (wSl 9))) (pSt f s m d k c6 c7 (.val (cD [fromI a KK, fromI b KK])) (.val (.bl th))) false := fun Kk h => by
  have c1 : CMulW 1 (f : Int) := mul_small (by omega) (by omega)
  have e : (f : Int) + m - 1 = ((f + m - 1 : Nat) : Int) := by omega
  simp [W_most_common, W_share_of, c1]
  rw [e]
  refine thin_of_ok (d := 1) hC hf ?_
  cases hx : thR [fromI a KK, fromI b KK] (KK - f) 1 (f + m - 1) with
  | none =>
    rw [hx] at hth
    subst hth
    simp [thD]
    exact h
  | some x =>
    rw [hx] at hth
    subst hth
    simp [thD]
    exact h
abbrev gLoop : WG := gTupV 2 (gConsV (gV 8) (gConsV (gV 9) gNilV))
theorem b_step {KK a b : Nat} {th : Bool} {rest : List D} {D' : EV} (h1 : f < KK → 1 ≤ KK → Crs KK [fromI a KK, fromI b KK] ∧ (thR [fromI a KK, fromI b KK] (KK - f) 1 (f + m - 1)).isSome = th) (hm : 1 ≤ m ∧ m ≤ 6) (hf3 : f ≤ 3) (h : ∀ c8 c9, forV gLoop W__law_borders_right_L1 rest D' (pSt f s m d k c6 c7 c8 c9)) :
    forV gLoop W__law_borders_right_L1 (.tup [cD [fromI a KK, fromI b KK], .bl th] :: rest) D' (pSt f s m d k c6 c7 c8 c9) := by
  rw [for_cons]
  generalize hF : forV gLoop W__law_borders_right_L1 rest D' = F at h
  have hs : W__law_borders_right_L1 { D' with nx := F, ct := F, bk := D'.nx } (pSt f s m d k c6 c7 (.val (cD [fromI a KK, fromI b KK])) (.val (.bl th))) := by
    unfold W__law_borders_right_L1
    have ht : Tv (wAnd (wTst (wOp gGt (wOf (wCB gLen (wCons (wOf (wOp gIx (wSl 8) (wOf (wC (.int 0))))) wNil))) (wSl 1))) (wTst (wOp gNe (wOf (wIsiO ["Numbers", "Thin"] "Thin" (wOf (wCall W_thin_of [] (wCons (wSl 8) (wCons (wSl 1) (wCons (wOf (wC (.int 1))) (wCons (wOf (wCall W_most_common [] (wCons (wSl 1) (wCons (wSl 3) (wCons (wOf (wC (.bl true))) wNil))))) wNil)))))))) (wSl 9)))) (pSt f s m d k c6 c7 (.val (cD [fromI a KK, fromI b KK])) (.val (.bl th))) false := by
      by_cases hlt : f < KK
      · obtain ⟨g1, g2⟩ := h1 hlt (by omega)
        have tg := t_gt (f := f) (s := s) (m := m) (d := d) (k := k) (c6 := c6) (c7 := c7) (c9 := .val (.bl th)) (K := KK) (a := a) (b := b)
        rw [decide_eq_true hlt] at tg
        exact Tv.and_t tg (t_ne (by omega) hm hf3 g1 g2)
      · have tg := t_gt (f := f) (s := s) (m := m) (d := d) (k := k) (c6 := c6) (c7 := c7) (c9 := .val (.bl th)) (K := KK) (a := a) (b := b)
        rw [decide_eq_false hlt] at tg
        exact Tv.and_f tg
    exact ht _ ⟨fun z => (by cases z), fun _ => h _ _⟩
  simp [gLoop]
  exact hs
theorem ev_lots (hk : k ≤ 100) (hs : s ≤ 100) : Ev (wTup (wCons (wOf (wRgT1 (wVar 5))) (wCons (wOf (wRgT (wVar 2) (wOp gAdd (wSl 5) (wSl 2)))) wNil))) (pSt f s m d k c6 .no .no .no) (· = cD [fromI 0 k, fromI s k]) := ⟨fun K h => by
  have h0 := h _ rfl
  have z2 : (2 : Nat) ≤ sizeLine := le_sz (by omega)
  have e : ((k : Int) + s - s).toNat = k := by omega
  have e1 := rgD_from (a := 0) (n := k)
  have e2 := rgD_from (a := s) (n := k)
  simp at e1
  simp [z2, e, e1, e2]
  exact ⟨⟨by omega, by omega⟩, ⟨⟨by omega, by omega, by omega⟩, by omega⟩, h0⟩⟩
theorem fromI_drop {a n : Nat} : (fromI a n).drop 1 = fromI (1 + a) (n - 1) := by
  cases n with
  | zero => rfl
  | succ n =>
    unfold fromI
    rw [List.range_succ_eq_map, List.map_cons, List.drop_succ_cons, List.drop_zero, List.map_map]
    refine List.map_congr_left fun i _ => ?_
    simp
    omega
theorem cut_from {a n : Nat} : cutD ((fromI a n).map D.int) (some 1) none = (fromI (1 + a) (n - 1)).map D.int := by
  rw [← fromI_drop, List.map_drop]
  exact cut_drop (n := 1)
theorem ev_list (hk : k ≤ 100) : Ev (wFz (wLst (wCons (wOf (wTup (wCons (wOf (wVar 7)) (wCons (wOf (wC (.bl false))) wNil)))) (wCons (wOf (wTup (wCons (wOf (wCB gTuple (wCons (wOf (wFz (wLc (wIt (wSl 7)) (gV 10) wYes (wSl3 (wSl 10) (wPS (wC (.int 1))) wPN) [10]))) wNil))) (wCons (wOf (wC (.bl true))) wNil)))) wNil)))) (pSt f s m d k c6 (.val (cD [fromI 0 k, fromI s k])) .no .no) (fun x => ∃ l, x = .lst l ∧ l = [.tup [cD [fromI 0 k, fromI s k], .bl false], .tup [cD [fromI 1 (k - 1), fromI (1 + s) (k - 1)], .bl true]]) := ⟨fun K h => by
  have h0 := h _ ⟨_, rfl, rfl⟩
  have z2 : (2 : Nat) ≤ sizeLine := le_sz (by omega)
  simp [z2]
  simp only [cut_from]
  exact ⟨lt_sz (by omega), lt_sz (by omega), h0⟩⟩
theorem borders_ok (hB : Bd f s m d k) (h : R (.bl true)) : W__law_borders_right [.hnd, .int f, .int s, .int m, .int d] R := by
  have h1 := hB.hf
  have h2 := hB.hs
  have h3 := hB.hm
  have h5 := hB.hk
  rw [W__law_borders_right_eq]
  refine ⟨rfl, ?_⟩
  have cm : CMulW 3 (f : Int) := mul_small (by omega) (by omega)
  refine seq_ev (S := (· = .int k)) ⟨fun K hk => ?_⟩ ?_
  · have e : (3 : Int) * f + s + m = k := by omega
    simp [cm, e]
    exact hk _ rfl
  rintro _ rfl
  unfold W__law_borders_right_R1
  refine seq_ifn (ρ := pSt f s m d k .no .no .no .no) (fun K h => b_t1 hB h) ?_
  unfold W__law_borders_right_R2
  refine seq_ifn (ρ := pSt f s m d k .no .no .no .no) (fun K h => b_t2 hB h) ?_
  unfold W__law_borders_right_R3
  refine seq_ev (ρ := pSt f s m d k .no .no .no .no) (S := (· = bestD f s m d k)) ⟨fun K hk => ?_⟩ ?_
  · simp
    refine b_num hB ?_
    simpa using hk _ rfl
  rintro _ rfl
  show W__law_borders_right_R4 _ (pSt f s m d k (.val (bestD f s m d k)) .no .no .no)
  unfold W__law_borders_right_R4
  by_cases hk : k ≤ 12
  · have e : bestD f s m d k = bD f s m d k := by unfold bestD; rw [if_pos hk]
    rw [e]
    refine seq_ifn (ρ := pSt f s m d k (.val (bD f s m d k)) .no .no .no) (fun K h => ?_) ?_
    · have : ¬ (12 : Int) < (k : Int) := by omega
      simp [this]
      exact h
    unfold W__law_borders_right_R5
    refine seq_ifn (ρ := pSt f s m d k (.val (bD f s m d k)) .no .no .no) (fun K h => b_t5 hB hk h) ?_
    unfold W__law_borders_right_R6
    refine seq_ifn (ρ := pSt f s m d k (.val (bD f s m d k)) .no .no .no) (fun K h => b_t6 hB hk h) ?_
    unfold W__law_borders_right_R7
    refine seq_ifn (ρ := pSt f s m d k (.val (bD f s m d k)) .no .no .no) (fun K h => b_t7 hB hk K h) ?_
    unfold W__law_borders_right_R8
    refine seq_ev (ev_lots (by omega) (by omega)) ?_
    rintro _ rfl
    show W__law_borders_right_R9 _ (pSt f s m d k (.val (bD f s m d k)) (.val (cD [fromI 0 k, fromI s k])) .no .no)
    unfold W__law_borders_right_R9
    rw [wSeq]
    refine for_list (ev_list (by omega)) ?_
    rintro _ rfl
    have es : fromI s k = fromI (0 + s) k := by rw [Nat.zero_add]
    rw [es]
    refine b_step (fun g1 g2 => ?_) h3 h1 fun c8 c9 => ?_
    · have hC : Crs k [fromI 0 k, fromI (0 + s) k] := two_crs (by omega) (by omega) (by omega)
      refine ⟨hC, ?_⟩
      have hg := @gap_le k 0 s
      rw [(thR_none (d := 1) (cm := f + m - 1) hC (show f ≤ k by omega)).2 (by omega)]
      rfl
    refine b_step (fun g1 g2 => ?_) h3 h1 fun c8 c9 => ?_
    · have hC : Crs (k - 1) [fromI 1 (k - 1), fromI (1 + s) (k - 1)] := two_crs (by omega) (by omega) (by omega)
      refine ⟨hC, ?_⟩
      have hg := @le_gap (k - 1) 1 s (by omega)
      cases hx : thR [fromI 1 (k - 1), fromI (1 + s) (k - 1)] (k - 1 - f) 1 (f + m - 1) with
      | some x => rfl
      | none =>
        have := (thR_none (d := 1) (cm := f + m - 1) hC (show f ≤ k - 1 by omega)).1 hx
        omega
    rw [for_nil]
    exact h
  · have e : bestD f s m d k = .non := by unfold bestD; rw [if_neg hk]
    rw [e]
    refine seq_if (ρ := pSt f s m d k (.val .non) .no .no .no) (b := true) (fun K h => ?_) (fun _ => ?_) fun z => (by cases z)
    · have : (12 : Int) < (k : Int) := by omega
      simp [this]
      exact h
    · simp
      exact h
end
end K78

namespace K78
open PySem PySem.Spec PyProof.Rows L2 Hl Vl
section
variable {ρ : Vn} {e e1 e2 e3 e4 : WE} {S S1 S2 S3 S4 : D → Prop} {u : WA} {n i : Nat} {D' : EV} {z : WS}
theorem pick_ev (h0 : ρ.getD 1 .no = .val .hnd) (h : EvL u ρ n S) (hn : 0 < n) (hz : n ≤ 1000) : Ev (wCall W__law_pick [] (wCons (wSl 1) (wCons (wOf (wFz (wLst u))) wNil))) ρ S := ⟨fun K k => by
  simp only [wCall, wCons, wSl, wOf, wNil, h0, cRd]
  refine (Ev.lst h (by omega) (S' := fun d => ∃ l : List D, d = .lst l ∧ l.length = n ∧ ∀ x ∈ l, S x) fun l hl ha => ⟨l, rfl, hl, ha⟩).h _ ?_
  rintro _ ⟨l, rfl, hl, ha⟩
  simp only [rsN, rs1, h0, cRd, List.append_nil]
  refine pick_D (by omega) (by omega) fun x hx => ?_
  have h1 : ρ[1]?.getD Cell.no = .val .hnd := by rw [← List.getD_eq_getElem?_getD]; exact h0
  simp [h1]
  exact k x (ha x hx)⟩
theorem draw_ev {P : Nat → Prop} (h0 : ρ.getD 1 .no = .val .hnd) (h : Ev e ρ fun d => ∃ n : Nat, (0 < n ∧ n < 1000000) ∧ P n ∧ d = .int n) : Ev (wCall W__law_draw [] (wCons (wSl 1) (wCons (wOf e) wNil))) ρ (fun d => ∃ n r : Nat, P n ∧ r < n ∧ d = .int r) := ⟨fun K k => by
  simp only [wCall, wCons, wSl, wOf, wNil, h0, cRd]
  refine h.h _ ?_
  rintro _ ⟨n, hn, hP, rfl⟩
  simp only [rsN, rs1, h0, cRd, List.append_nil]
  refine draw_iff.2 ⟨by omega, by omega, fun r r0 r1 => ?_⟩
  have h1 : ρ[1]?.getD Cell.no = .val .hnd := by rw [← List.getD_eq_getElem?_getD]; exact h0
  simp [h1]
  exact k _ ⟨n, r.toNat, hP, by omega, by rw [Int.toNat_of_nonneg r0]⟩⟩
theorem cb_sl {g : GN} {a : D} (h0 : ρ.getD i .no = .val a) (h : Ev e ρ S1) (hg : ∀ b, S1 b → ∀ K : D → Prop, (∀ d, S d → K d) → g [a, b] K) : Ev (wCB g (wCons (wSl i) (wCons (wOf e) wNil))) ρ S := ⟨fun K k => by
  simp only [wCB, wCons, wSl, wOf, wNil, h0, cRd]
  refine h.h _ fun b hb => ?_
  simp only [rsN, rs1, h0, cRd]
  exact hg b hb _ fun d hd => k d hd⟩
theorem cb_of {g : GN} (h0 : Ev e1 ρ S2) (h : Ev e ρ S1) (hg : ∀ a b, S2 a → S1 b → ∀ K : D → Prop, (∀ d, S d → K d) → g [a, b] K) : Ev (wCB g (wCons (wOf e1) (wCons (wOf e) wNil))) ρ S := ⟨fun K k => by
  simp only [wCB, wCons, wOf, wNil]
  refine h0.h _ fun a ha => h.h _ fun b hb => ?_
  simp only [rsN, rs1]
  exact hg a b ha hb _ fun d hd => k d hd⟩
theorem parT4_ev {a b c d : Nat} (h1 : Ev e1 ρ S1) (h2 : Ev e2 ρ S2) (h3 : Ev e3 ρ S3) (h4 : Ev e4 ρ S4) (k : ∀ x y v w, S1 x → S2 y → S3 v → S4 w → z D' (setQs [a, b, c, d] [.qv x, .qv y, .qv v, .qv w] ρ)) : wSeq (wParT [a, b, c, d] (wQc (wQv e1) (wQc (wQv e2) (wQc (wQv e3) (wQc (wQv e4) wQn))))) z D' ρ :=
  h1.h _ fun x hx => h2.h _ fun y hy => h3.h _ fun v hv => h4.h _ fun w hw => ⟨⟨rfl, le_sz (by simp)⟩, k x y v w hx hy hv hw⟩
theorem par3_ev {a b c : Nat} (h1 : Ev e1 ρ S1) (h2 : Ev e2 ρ S2) (h3 : Ev e3 ρ S3) (k : ∀ x y v, S1 x → S2 y → S3 v → z D' (((ρ.set a (.val x)).set b (.val y)).set c (.val v))) : wSeq (wPar3 a b c (wQc (wQv e1) (wQc (wQv e2) (wQc (wQv e3) wQn)))) z D' ρ :=
  h1.h _ fun x hx => h2.h _ fun y hy => h3.h _ fun v hv => k x y v hx hy hv
abbrev nt (P : Nat → Prop) : D → Prop := fun d => ∃ n : Nat, P n ∧ d = .int n
end
section
variable {D' : EV} {c0 c2 c3 c4 c5 c6 c7 c8 c9 c10 c11 c12 c13 : Cell} {k f s m d need w1 w2 g : Nat}
abbrev lSt (c0 c2 c3 c4 c5 c6 c7 c8 c9 c10 c11 c12 c13 : Cell) : Vn := [c0, .val .hnd, c2, c3, c4, c5, c6, c7, c8, c9, c10, c11, c12, c13]
def W_law_L1_R8 : WS := (wIf (wNot (wTru (wOf (wCall W__law_borders_right [] (wCons (wSl 1) (wCons (wOf (wCall W__law_draw [] (wCons (wSl 1) (wCons (wOf (wC (.int 4))) wNil)))) (wCons (wOf (wCall W__law_draw [] (wCons (wSl 1) (wCons (wOf (wC (.int 4))) wNil)))) (wCons (wOf (wOp gAdd (wOf (wC (.int 1))) (wOf (wCall W__law_draw [] (wCons (wSl 1) (wCons (wOf (wC (.int 6))) wNil)))))) (wCons (wSl 7) wNil))))))))) (wRet (wC (.bl false))) wNext)
def W_law_L1_R7 : WS := (wSeq (wIf (wAnd (wTst (wOp gGt (wSl 5) (wOf (wC (.int 0))))) (wOr (wNot (wTru (wOf (wCall W__law_never_open [] (wCons (wSl 1) (wCons (wSl 13) (wCons (wSl 5) (wCons (wSl 8) wNil)))))))) (wNot (wTru (wOf (wCall W__law_some_open [] (wCons (wSl 13) (wCons (wSl 5) (wCons (wSl 8) wNil))))))))) (wRet (wC (.bl false))) wNext) W_law_L1_R8)
def W_law_L1_R6 : WS := (wSeq (wIf (wNot (wTru (wOf (wCall W__law_sums_right [] (wCons (wSl 13) (wCons (wSl 5) wNil)))))) (wRet (wC (.bl false))) wNext) W_law_L1_R7)
def W_law_L1_R5 : WS := (wSeq (wSet (wTup (wCons (wOf (wVar 3)) (wCons (wOf (wVar 4)) (wCons (wOf (wVar 7)) (wCons (wOf (wVar 6)) (wCons (wOf (wVar 11)) (wCons (wOf (wVar 10)) (wCons (wOf (wVar 12)) wNil)))))))) (gV 13)) W_law_L1_R6)
def W_law_L1_R4 : WS := (wSeq (wSet (wCB gMax (wCons (wOf (wC (.int 1))) (wCons (wOf (wCB gMin (wCons (wSl 3) (wCons (wOf (wCall W__law_pick [] (wCons (wSl 1) (wCons (wOf (wFz (wLst (wCons (wOf (wOp gSub (wOf (wOp gAdd (wSl 9) (wSl 8))) (wSl 10))) (wCons (wOf (wOp gSub (wOf (wOp gSub (wOf (wOp gAdd (wSl 9) (wSl 8))) (wSl 10))) (wOf (wC (.int 1))))) (wCons (wOf (wOp gAdd (wOf (wC (.int 1))) (wOf (wCall W__law_draw [] (wCons (wSl 1) (wCons (wSl 3) wNil)))))) wNil)))))) wNil)))) wNil)))) wNil))) (gV 12)) W_law_L1_R5)
def W_law_L1_R3 : WS := (wSeq (wSet (wCB gMax (wCons (wOf (wC (.int 1))) (wCons (wOf (wCB gMin (wCons (wSl 3) (wCons (wOf (wCall W__law_pick [] (wCons (wSl 1) (wCons (wOf (wFz (wLst (wCons (wOf (wOp gDiv (wSl 9) (wOf (wC (.int 2))))) (wCons (wOf (wOp gAdd (wOf (wOp gDiv (wSl 9) (wOf (wC (.int 2))))) (wOf (wC (.int 1))))) (wCons (wOf (wVar 3)) wNil)))))) wNil)))) wNil)))) wNil))) (gV 11)) W_law_L1_R4)
def W_law_L1_R2 : WS := (wSeq (wPar3 8 9 10 (wQc (wQv (wCall W__law_pick [] (wCons (wSl 1) (wCons (wOf (wFz (wLst (wCons (wOf (wC (.int 1))) (wCons (wOf (wVar 6)) (wCons (wOf (wOp gAdd (wSl 6) (wSl 4))) wNil)))))) wNil)))) (wQc (wQv (wOp gAdd (wOf (wOp gAdd (wSl 3) (wSl 5))) (wSl 4))) (wQc (wQv (wOp gAdd (wOf (wC (.int 1))) (wOf (wCall W__law_draw [] (wCons (wSl 1) (wCons (wSl 3) wNil)))))) wQn)))) W_law_L1_R3)
def W_law_L1_R1 : WS := (wSeq (wParT [4, 5, 6, 7] (wQc (wQv (wCB gMin (wCons (wSl 3) (wCons (wOf (wCall W__law_pick [] (wCons (wSl 1) (wCons (wOf (wFz (wLst (wCons (wOf (wC (.int 0))) (wCons (wOf (wC (.int 1))) (wCons (wOf (wC (.int 1))) (wCons (wOf (wC (.int 2))) wNil))))))) wNil)))) wNil)))) (wQc (wQv (wCB gMin (wCons (wSl 3) (wCons (wOf (wCall W__law_pick [] (wCons (wSl 1) (wCons (wOf (wFz (wLst (wCons (wOf (wC (.int 0))) (wCons (wOf (wC (.int 1))) (wCons (wOf (wC (.int 1))) (wCons (wOf (wC (.int 2))) (wCons (wOf (wC (.int 3))) wNil)))))))) wNil)))) wNil)))) (wQc (wQv (wOp gAdd (wOf (wC (.int 1))) (wOf (wCall W__law_draw [] (wCons (wSl 1) (wCons (wOf (wCB gMin (wCons (wSl 3) (wCons (wOf (wC (.int 6))) wNil)))) wNil)))))) (wQc (wQv (wOp gAdd (wOf (wC (.int 1))) (wOf (wCall W__law_draw [] (wCons (wSl 1) (wCons (wOf (wC (.int 3))) wNil)))))) wQn))))) W_law_L1_R2)
theorem W_law_L1_eq : W_law_L1 =  (wSeq (wSet (wOp gAdd (wOf (wC (.int 1))) (wOf (wCall W__law_draw [] (wCons (wSl 1) (wCons (wOf (wCall W__law_pick [] (wCons (wSl 1) (wCons (wOf (wFz (wLst (wCons (wOf (wC (.int 5))) (wCons (wOf (wC (.int 9))) (wCons (wOf (wC (.int 12))) wNil)))))) wNil)))) wNil))))) (gV 3)) W_law_L1_R1) := rfl
theorem l8 (hd : 1 ≤ d ∧ d ≤ 3) (h : D'.nx (lSt c0 c2 c3 c4 c5 c6 (.val (.int d)) c8 c9 c10 c11 c12 c13)) : W_law_L1_R8 D' (lSt c0 c2 c3 c4 c5 c6 (.val (.int d)) c8 c9 c10 c11 c12 c13) := by
  have ht : ∀ K : Bool → Vn → Prop, K false (lSt c0 c2 c3 c4 c5 c6 (.val (.int d)) c8 c9 c10 c11 c12 c13) → (wNot (wTru (wOf (wCall W__law_borders_right [] (wCons (wSl 1) (wCons (wOf (wCall W__law_draw [] (wCons (wSl 1) (wCons (wOf (wC (.int 4))) wNil)))) (wCons (wOf (wCall W__law_draw [] (wCons (wSl 1) (wCons (wOf (wC (.int 4))) wNil)))) (wCons (wOf (wOp gAdd (wOf (wC (.int 1))) (wOf (wCall W__law_draw [] (wCons (wSl 1) (wCons (wOf (wC (.int 6))) wNil)))))) (wCons (wSl 7) wNil))))))))) (lSt c0 c2 c3 c4 c5 c6 (.val (.int d)) c8 c9 c10 c11 c12 c13) K := fun K h => by
    simp
    intro r r0 r1 r' r0' r1' m m0 m1
    obtain ⟨r, rfl⟩ : ∃ n : Nat, r = n := ⟨r.toNat, by omega⟩
    obtain ⟨r', rfl⟩ : ∃ n : Nat, r' = n := ⟨r'.toNat, by omega⟩
    obtain ⟨m, hm⟩ : ∃ n : Nat, 1 + m = n := ⟨(1 + m).toNat, by omega⟩
    rw [hm]
    refine borders_ok (k := 3 * r + r' + m) ⟨by omega, by omega, by omega, by omega, rfl⟩ ?_
    simpa using h
  unfold W_law_L1_R8
  exact ht _ ⟨fun z => (by cases z), fun _ => h⟩
end
end K78

namespace K78
open PySem PySem.Spec PyProof.Rows L2 Hl Vl
section
variable {D' : EV} {c0 c2 c3 c4 c5 c6 c7 c8 c9 c10 c11 c12 c13 : Cell} {k f s m d need both w1 w2 g : Nat}
abbrev pD (k f m d w1 w2 g : Nat) : D := .tup [.int k, .int f, .int d, .int m, .int w1, .int w2, .int g]
abbrev mSt (c0 c2 : Cell) (k f s m d need both w2 w1 g : Nat) (c13 : Cell) : Vn := lSt c0 c2 (.val (.int k)) (.val (.int f)) (.val (.int s)) (.val (.int m)) (.val (.int d)) (.val (.int need)) (.val (.int both)) (.val (.int w2)) (.val (.int w1)) (.val (.int g)) c13
theorem l7 (hN : Nm k f d m w1 w2 g) (hd : d ≤ 3) (hs : s ≤ 12) (h : D'.nx (mSt c0 c2 k f s m d need both w2 w1 g (.val (pD k f m d w1 w2 g)))) : W_law_L1_R7 D' (mSt c0 c2 k f s m d need both w2 w1 g (.val (pD k f m d w1 w2 g))) := by
  have hdd := hN.hd
  have t1 : Tv (wNot (wTru (wOf (wCall W__law_never_open [] (wCons (wSl 1) (wCons (wSl 13) (wCons (wSl 5) (wCons (wSl 8) wNil)))))))) (mSt c0 c2 k f s m d need both w2 w1 g (.val (pD k f m d w1 w2 g))) false := fun K h => by
    simp
    refine never_open_ok hN hs ?_
    simpa using h
  have t2 : Tv (wNot (wTru (wOf (wCall W__law_some_open [] (wCons (wSl 13) (wCons (wSl 5) (wCons (wSl 8) wNil))))))) (mSt c0 c2 k f s m d need both w2 w1 g (.val (pD k f m d w1 w2 g))) false := fun K h => by
    simp
    refine some_open_ok hN hs ?_
    simpa using h
  unfold W_law_L1_R7
  refine seq_ifn (fun K hk => ?_) (l8 ⟨hdd.1, hd⟩ h)
  by_cases h0 : 0 < s
  · refine Tv.and_t (b := false) (fun K h => ?_) (Tv.or_f t1 t2) K hk
    have : (0 : Int) < (s : Int) := by omega
    simp [this, h0]
    exact h
  · refine Tv.and_f (fun K h => ?_) K hk
    have : ¬ (0 : Int) < (s : Int) := by omega
    simp [this, h0]
    exact h
theorem l6 (hN : Nm k f d m w1 w2 g) (hd : d ≤ 3) (hs : s ≤ 12) (h : D'.nx (mSt c0 c2 k f s m d need both w2 w1 g (.val (pD k f m d w1 w2 g)))) : W_law_L1_R6 D' (mSt c0 c2 k f s m d need both w2 w1 g (.val (pD k f m d w1 w2 g))) := by
  have h1 := hN.hk
  have h2 := hN.hf
  have h3 := hN.hd
  have h4 := hN.hm
  have h5 := hN.hw1
  have h6 := hN.hw2
  have h7 := hN.hg
  have t1 : Tv (wNot (wTru (wOf (wCall W__law_sums_right [] (wCons (wSl 13) (wCons (wSl 5) wNil)))))) (mSt c0 c2 k f s m d need both w2 w1 g (.val (pD k f m d w1 w2 g))) false := fun K h => by
    simp
    refine sums_ok ⟨by omega, by omega, by omega, by omega, by omega, by omega⟩ (by omega) (by omega) (by omega) ?_
    simpa using h
  unfold W_law_L1_R6
  exact seq_ifn (fun K hk => t1 K hk) (l7 hN hd hs h)
theorem l5 (hN : Nm k f d m w1 w2 g) (hd : d ≤ 3) (hs : s ≤ 12) (h : ∀ c13, D'.nx (mSt c0 c2 k f s m d need both w2 w1 g c13)) : W_law_L1_R5 D' (mSt c0 c2 k f s m d need both w2 w1 g c13) := by
  unfold W_law_L1_R5
  have e : Ev (wTup (wCons (wOf (wVar 3)) (wCons (wOf (wVar 4)) (wCons (wOf (wVar 7)) (wCons (wOf (wVar 6)) (wCons (wOf (wVar 11)) (wCons (wOf (wVar 10)) (wCons (wOf (wVar 12)) wNil)))))))) (mSt c0 c2 k f s m d need both w2 w1 g c13) (· = pD k f m d w1 w2 g) := ⟨fun K hk => ⟨le_sz (by simp), hk _ rfl⟩⟩
  refine seq_ev e ?_
  rintro _ rfl
  exact l6 hN hd hs (h _)
end
end K78

namespace K78
open PySem PySem.Spec PyProof.Rows L2 Hl Vl
abbrev it : D → Prop := fun d => ∃ i : Int, d = .int i
section
variable {D' : EV} {c0 c2 c3 c4 c5 c6 c7 c8 c9 c10 c11 c12 c13 : Cell} {k f s m d need both w1 w2 g : Nat} {ρ : Vn} {e : WE}
theorem clamp_ev (hk : 1 ≤ k) (h3 : ρ.getD 3 .no = .val (.int k)) (h : Ev e ρ it) : Ev (wCB gMax (wCons (wOf (wC (.int 1))) (wCons (wOf (wCB gMin (wCons (wSl 3) (wCons (wOf e) wNil)))) wNil))) ρ (nt fun n => 1 ≤ n ∧ n ≤ k) :=
  cb_of (S2 := (· = .int 1)) (S1 := fun d => ∃ i : Int, i ≤ k ∧ d = .int i) (Ev.cst rfl) (cb_sl h3 h fun b hb K hK => by
    obtain ⟨i, rfl⟩ := hb
    exact hK _ ⟨min k i, by omega, rfl⟩) fun a b ha hb K hK => by
    subst ha
    obtain ⟨i, hi, rfl⟩ := hb
    exact hK _ ⟨(max 1 i).toNat, by omega, congrArg D.int (by omega)⟩
theorem min_ev (h3 : ρ.getD 3 .no = .val (.int k)) (h : Ev e ρ (nt fun n => n ≤ 3)) : Ev (wCB gMin (wCons (wSl 3) (wCons (wOf e) wNil))) ρ (nt fun n => n ≤ k ∧ n ≤ 3) :=
  cb_sl h3 h fun b hb K hK => by
    obtain ⟨i, hi, rfl⟩ := hb
    exact hK _ ⟨min k i, by omega, congrArg D.int (by omega)⟩
theorem l4 (hk : 1 ≤ k ∧ k ≤ 12) (h : ∀ g, 1 ≤ g ∧ g ≤ k → W_law_L1_R5 D' (mSt c0 c2 k f s m d need both w2 w1 g c13)) : W_law_L1_R4 D' (lSt c0 c2 (.val (.int k)) (.val (.int f)) (.val (.int s)) (.val (.int m)) (.val (.int d)) (.val (.int need)) (.val (.int both)) (.val (.int w2)) (.val (.int w1)) c12 c13) := by
  unfold W_law_L1_R4
  refine seq_ev (clamp_ev (k := k) hk.1 rfl (pick_ev rfl (.cons (S := it) ⟨fun K h => ?_⟩ (.cons ⟨fun K h => ?_⟩ (.cons ⟨fun K h => ?_⟩ .nil))) (by omega) (by omega))) ?_
  · simp
    exact h _ ⟨_, rfl⟩
  · simp
    exact h _ ⟨_, rfl⟩
  · simp
    exact ⟨by omega, by omega, fun r _ _ => h _ ⟨_, rfl⟩⟩
  · rintro _ ⟨g, hg, rfl⟩
    exact h g hg
theorem l3 (hk : 1 ≤ k) (h : ∀ w1, 1 ≤ w1 ∧ w1 ≤ k → W_law_L1_R4 D' (lSt c0 c2 (.val (.int k)) (.val (.int f)) (.val (.int s)) (.val (.int m)) (.val (.int d)) (.val (.int need)) (.val (.int both)) (.val (.int w2)) (.val (.int w1)) c12 c13)) : W_law_L1_R3 D' (lSt c0 c2 (.val (.int k)) (.val (.int f)) (.val (.int s)) (.val (.int m)) (.val (.int d)) (.val (.int need)) (.val (.int both)) (.val (.int w2)) c11 c12 c13) := by
  have d2 : ∀ i : Int, CDivW i 2 := fun i => div_small (by omega) (by omega)
  unfold W_law_L1_R3
  refine seq_ev (clamp_ev (k := k) hk rfl (pick_ev rfl (.cons (S := it) ⟨fun K h => ?_⟩ (.cons ⟨fun K h => ?_⟩ (.cons (.var rfl ⟨_, rfl⟩) .nil))) (by omega) (by omega))) ?_
  · simp [d2]
    exact h _ ⟨_, rfl⟩
  · simp [d2]
    exact h _ ⟨_, rfl⟩
  · rintro _ ⟨w1, hw, rfl⟩
    exact h w1 hw
theorem l2 (hk : 1 ≤ k ∧ k ≤ 12) (h : ∀ need w2, 1 ≤ w2 ∧ w2 ≤ k → W_law_L1_R3 D' (lSt c0 c2 (.val (.int k)) (.val (.int f)) (.val (.int s)) (.val (.int m)) (.val (.int d)) (.val (.int (need : Nat))) (.val (.int ((k + s + f : Nat) : Int))) (.val (.int (w2 : Nat))) c11 c12 c13)) : W_law_L1_R2 D' (lSt c0 c2 (.val (.int k)) (.val (.int f)) (.val (.int s)) (.val (.int m)) (.val (.int d)) c8 c9 c10 c11 c12 c13) := by
  unfold W_law_L1_R2
  refine par3_ev (S1 := nt fun _ => True) (S2 := (· = .int ((k + s + f : Nat) : Int))) (S3 := nt fun n => 1 ≤ n ∧ n ≤ k) (pick_ev rfl (.cons (.cst ⟨1, trivial, rfl⟩) (.cons (.var rfl ⟨m, trivial, rfl⟩) (.cons ⟨fun K h => ?_⟩ .nil))) (by omega) (by omega)) ⟨fun K h => ?_⟩ ⟨fun K h => ?_⟩ ?_
  · simp
    exact h _ ⟨m + f, trivial, rfl⟩
  · simp
    exact h _ rfl
  · simp
    refine ⟨by omega, by omega, fun r r0 r1 => ?_⟩
    exact h _ ⟨(1 + r).toNat, by omega, congrArg D.int (by omega)⟩
  · rintro _ _ _ ⟨need, _, rfl⟩ rfl ⟨w2, hw, rfl⟩
    exact h need w2 hw
theorem l1 (hk : 1 ≤ k ∧ k ≤ 12) (h : ∀ f s m d, f ≤ k ∧ f ≤ 3 → s ≤ 3 → (1 ≤ m ∧ m ≤ 6 ∧ m ≤ k) → (1 ≤ d ∧ d ≤ 3) → W_law_L1_R2 D' (lSt c0 c2 (.val (.int k)) (.val (.int (f : Nat))) (.val (.int (s : Nat))) (.val (.int (m : Nat))) (.val (.int (d : Nat))) c8 c9 c10 c11 c12 c13)) : W_law_L1_R1 D' (lSt c0 c2 (.val (.int k)) c4 c5 c6 c7 c8 c9 c10 c11 c12 c13) := by
  unfold W_law_L1_R1
  have hc : ∀ {n : Nat}, n ≤ 3 → Ev (wC (.int n)) (lSt c0 c2 (.val (.int k)) c4 c5 c6 c7 c8 c9 c10 c11 c12 c13) (nt fun n => n ≤ 3) := fun h => .cst ⟨_, h, rfl⟩
  refine parT4_ev (min_ev (k := k) rfl (pick_ev rfl (.cons (hc (n := 0) (by omega)) (.cons (hc (n := 1) (by omega)) (.cons (hc (n := 1) (by omega)) (.cons (hc (n := 2) (by omega)) .nil)))) (by omega) (by omega)))
    (min_ev (k := k) rfl (pick_ev rfl (.cons (hc (n := 0) (by omega)) (.cons (hc (n := 1) (by omega)) (.cons (hc (n := 1) (by omega)) (.cons (hc (n := 2) (by omega)) (.cons (hc (n := 3) (by omega)) .nil))))) (by omega) (by omega)))
    (S3 := nt fun n => 1 ≤ n ∧ n ≤ 6 ∧ n ≤ k) (S4 := nt fun n => 1 ≤ n ∧ n ≤ 3) ⟨fun K h => ?_⟩ ⟨fun K h => ?_⟩ ?_
  · simp
    refine ⟨by omega, by omega, fun r r0 r1 => ?_⟩
    exact h _ ⟨(1 + r).toNat, by omega, congrArg D.int (by omega)⟩
  · simp
    intro r r0 r1
    exact h _ ⟨(1 + r).toNat, by omega, congrArg D.int (by omega)⟩
  · rintro _ _ _ _ ⟨f, hf, rfl⟩ ⟨s, hs, rfl⟩ ⟨m, hm, rfl⟩ ⟨d, hd, rfl⟩
    exact h f s m d hf hs.2 hm hd
end
end K78

namespace K78
open PySem PySem.Spec PyProof.Rows L2 Hl Vl
theorem law_loop {D' : EV} {c0 : Cell} : ∀ (n : Nat) {lo : Int} {c2 c3 c4 c5 c6 c7 c8 c9 c10 c11 c12 c13 : Cell}, 
    (∀ d2 d3 d4 d5 d6 d7 d8 d9 d10 d11 d12 d13, D'.nx (lSt c0 d2 d3 d4 d5 d6 d7 d8 d9 d10 d11 d12 d13)) →
    forV (gV 2) W_law_L1 (rgD lo n) D' (lSt c0 c2 c3 c4 c5 c6 c7 c8 c9 c10 c11 c12 c13)
  | 0, lo, _, _, _, _, _, _, _, _, _, _, _, _, h => h _ _ _ _ _ _ _ _ _ _ _ _
  | n + 1, lo, c2, c3, c4, c5, c6, c7, c8, c9, c10, c11, c12, c13, h => by
    rw [rgD_succ, for_cons]
    generalize hF : forV (gV 2) W_law_L1 (rgD (lo + 1) n) D' = F
    rw [W_law_L1_eq]
    have hstart : wSeq (wSet (wOp gAdd (wOf (wC (.int 1))) (wOf (wCall W__law_draw [] (wCons (wSl 1) (wCons (wOf (wCall W__law_pick [] (wCons (wSl 1) (wCons (wOf (wFz (wLst (wCons (wOf (wC (.int 5))) (wCons (wOf (wC (.int 9))) (wCons (wOf (wC (.int 12))) wNil)))))) wNil)))) wNil))))) (gV 3)) W_law_L1_R1 { D' with nx := F, ct := F, bk := D'.nx } (lSt c0 (.val (.int lo)) c3 c4 c5 c6 c7 c8 c9 c10 c11 c12 c13) := by
      refine seq_ev (S := nt fun n => 1 ≤ n ∧ n ≤ 12) (Ev.op (S1 := (· = .int 1)) (Ev.cst rfl) (draw_ev (P := fun n => n ≤ 12) rfl (pick_ev rfl (.cons (.cst ⟨5, by omega, by omega, rfl⟩) (.cons (.cst ⟨9, by omega, by omega, rfl⟩) (.cons (.cst ⟨12, by omega, by omega, rfl⟩) .nil))) (by omega) (by omega))) fun a b ha hb K hK => ?_) ?_
      · subst ha
        obtain ⟨n, r, hn, hr, rfl⟩ := hb
        exact hK _ ⟨1 + r, by omega, congrArg D.int (by omega)⟩
      · rintro _ ⟨k, hk, rfl⟩
        refine l1 hk fun f s m d hf hs hm hd => ?_
        refine l2 hk fun need w2 hw2 => ?_
        refine l3 hk.1 fun w1 hw1 => ?_
        refine l4 hk fun g hg => ?_
        refine l5 ⟨hk, hf.1, by omega, hm, hw1, hw2, hg⟩ hd.2 (by omega) fun c13 => ?_
        rw [← hF]
        exact law_loop n h
    exact hstart
theorem law_true : ∀ ns : List Int, ns.length ≤ 63 → W_law [.scr ns] fun d => d = .bl true := by
  intro ns hns
  have hl := law_loop (D' := { nx := wRet (wAndV (wCall W__law_sums_right [] (wCons (wOf (wTup (wCons (wOf (wC (.int 5))) (wCons (wOf (wC (.int 1))) (wCons (wOf (wC (.int 2))) (wCons (wOf (wC (.int 2))) (wCons (wOf (wC (.int 5))) (wCons (wOf (wC (.int 4))) (wCons (wOf (wC (.int 4))) wNil))))))))) (wCons (wOf (wC (.int 1))) wNil))) (wCall W__law_borders_right [] (wCons (wSl 1) (wCons (wOf (wC (.int 1))) (wCons (wOf (wC (.int 1))) (wCons (wOf (wC (.int 2))) (wCons (wOf (wC (.int 2))) wNil))))))) { nx := fun _ => D.non = D.bl true, rt := fun d => d = D.bl true }, rt := fun d => d = D.bl true }) (c0 := .val (.scr ns)) 3 (lo := 0) (c2 := .no) (c3 := .no) (c4 := .no) (c5 := .no) (c6 := .no) (c7 := .no) (c8 := .no) (c9 := .no) (c10 := .no) (c11 := .no) (c12 := .no) (c13 := .no) fun d2 d3 d4 d5 d6 d7 d8 d9 d10 d11 d12 d13 => by
    have z7 : (7 : Nat) ≤ sizeLine := le_sz (by omega)
    simp [z7]
    refine sums_ok ⟨by omega, by omega, by omega, by omega, by omega, by omega⟩ (by omega) (by omega) (by omega) ?_
    try simp
    exact borders_ok (f := 1) (s := 1) (m := 2) (d := 2) (k := 6) ⟨by omega, by omega, by omega, by omega, rfl⟩ rfl
  simp [W_law, hns, -forV]
  exact hl
end K78

namespace K78
open PySem PySem.Spec PyProof.Rows L2 Hl Vl
theorem all_mk {l : PySem.W.OpenLaw} {w : World} {K : PySem.W.Frag} {h : Heap} {mg : Str → Option Value} {fa : Addr} (X : K.In h) (G : h.Ns mainGlobals mg) (hfa : mg "law" = some (.ref fa))
    {f_0 f_1 f_2 f_3 f_4 f_5 f_6 f_7 f_8 f_9 f_10 f_11 f_12 f_13 f_14 f_15 f_16 f_17 f_18 f_19 f_20 f_21 f_22 f_23 f_24 f_25 f_26 f_27 f_28 f_29 f_30 f_31 f_32 f_33 f_34 f_35 f_36 f_37 f_38 f_39 f_40 f_41 f_42 f_43 f_44 f_45 f_46 f_47 f_48 f_49 f_50 f_51 f_52 f_53 f_54 : Addr} {t_FAR t_GONE t_MOST_COPIES t_MOST_LAG t_MOST_PIECES t_NEAR : Tok} {C_Numbers C_Thin : Addr}
    {od_0 an_0 : Option Addr} {sl_0 : Array (Option Value)} {oc_0 kV_0 dc_0 pm_0 cd_0 ct_0 : Value}
    {od_1 an_1 : Option Addr} {sl_1 : Array (Option Value)} {oc_1 kV_1 dc_1 pm_1 cd_1 ct_1 : Value}
    {tT_1 : Addr} {ocT_1 : Value} {odT_1 : Option Addr} {slT_1 : Array (Option Value)} {nT_1 : Nat}
    {od_2 an_2 : Option Addr} {sl_2 : Array (Option Value)} {oc_2 kV_2 dc_2 pm_2 cd_2 ct_2 : Value}
    {od_3 an_3 : Option Addr} {sl_3 : Array (Option Value)} {oc_3 kV_3 dc_3 pm_3 cd_3 ct_3 : Value}
    {od_4 an_4 : Option Addr} {sl_4 : Array (Option Value)} {oc_4 kV_4 dc_4 pm_4 cd_4 ct_4 : Value}
    {od_5 an_5 : Option Addr} {sl_5 : Array (Option Value)} {oc_5 kV_5 dc_5 pm_5 cd_5 ct_5 : Value}
    {od_6 an_6 : Option Addr} {sl_6 : Array (Option Value)} {oc_6 kV_6 dc_6 pm_6 cd_6 ct_6 : Value}
    {od_7 an_7 : Option Addr} {sl_7 : Array (Option Value)} {oc_7 kV_7 dc_7 pm_7 cd_7 ct_7 : Value}
    {od_8 an_8 : Option Addr} {sl_8 : Array (Option Value)} {oc_8 kV_8 dc_8 pm_8 cd_8 ct_8 : Value}
    {od_9 an_9 : Option Addr} {sl_9 : Array (Option Value)} {oc_9 kV_9 dc_9 pm_9 cd_9 ct_9 : Value}
    {od_10 an_10 : Option Addr} {sl_10 : Array (Option Value)} {oc_10 kV_10 dc_10 pm_10 cd_10 ct_10 : Value}
    {od_11 an_11 : Option Addr} {sl_11 : Array (Option Value)} {oc_11 kV_11 dc_11 pm_11 cd_11 ct_11 : Value}
    {od_12 an_12 : Option Addr} {sl_12 : Array (Option Value)} {oc_12 kV_12 dc_12 pm_12 cd_12 ct_12 : Value}
    {od_13 an_13 : Option Addr} {sl_13 : Array (Option Value)} {oc_13 kV_13 dc_13 pm_13 cd_13 ct_13 : Value}
    {od_14 an_14 : Option Addr} {sl_14 : Array (Option Value)} {oc_14 kV_14 dc_14 pm_14 cd_14 ct_14 : Value}
    {od_15 an_15 : Option Addr} {sl_15 : Array (Option Value)} {oc_15 kV_15 dc_15 pm_15 cd_15 ct_15 : Value}
    {od_16 an_16 : Option Addr} {sl_16 : Array (Option Value)} {oc_16 kV_16 dc_16 pm_16 cd_16 ct_16 : Value}
    {od_17 an_17 : Option Addr} {sl_17 : Array (Option Value)} {oc_17 kV_17 dc_17 pm_17 cd_17 ct_17 : Value}
    {od_18 an_18 : Option Addr} {sl_18 : Array (Option Value)} {oc_18 kV_18 dc_18 pm_18 cd_18 ct_18 : Value}
    {od_19 an_19 : Option Addr} {sl_19 : Array (Option Value)} {oc_19 kV_19 dc_19 pm_19 cd_19 ct_19 : Value}
    {od_20 an_20 : Option Addr} {sl_20 : Array (Option Value)} {oc_20 kV_20 dc_20 pm_20 cd_20 ct_20 : Value}
    {od_21 an_21 : Option Addr} {sl_21 : Array (Option Value)} {oc_21 kV_21 dc_21 pm_21 cd_21 ct_21 : Value}
    {od_22 an_22 : Option Addr} {sl_22 : Array (Option Value)} {oc_22 kV_22 dc_22 pm_22 cd_22 ct_22 : Value}
    {od_23 an_23 : Option Addr} {sl_23 : Array (Option Value)} {oc_23 kV_23 dc_23 pm_23 cd_23 ct_23 : Value}
    {od_24 an_24 : Option Addr} {sl_24 : Array (Option Value)} {oc_24 kV_24 dc_24 pm_24 cd_24 ct_24 : Value}
    {od_25 an_25 : Option Addr} {sl_25 : Array (Option Value)} {oc_25 kV_25 dc_25 pm_25 cd_25 ct_25 : Value}
    {od_26 an_26 : Option Addr} {sl_26 : Array (Option Value)} {oc_26 kV_26 dc_26 pm_26 cd_26 ct_26 : Value}
    {od_27 an_27 : Option Addr} {sl_27 : Array (Option Value)} {oc_27 kV_27 dc_27 pm_27 cd_27 ct_27 : Value}
    {od_28 an_28 : Option Addr} {sl_28 : Array (Option Value)} {oc_28 kV_28 dc_28 pm_28 cd_28 ct_28 : Value}
    {od_29 an_29 : Option Addr} {sl_29 : Array (Option Value)} {oc_29 kV_29 dc_29 pm_29 cd_29 ct_29 : Value}
    {od_30 an_30 : Option Addr} {sl_30 : Array (Option Value)} {oc_30 kV_30 dc_30 pm_30 cd_30 ct_30 : Value}
    {od_31 an_31 : Option Addr} {sl_31 : Array (Option Value)} {oc_31 kV_31 dc_31 pm_31 cd_31 ct_31 : Value}
    {od_32 an_32 : Option Addr} {sl_32 : Array (Option Value)} {oc_32 kV_32 dc_32 pm_32 cd_32 ct_32 : Value}
    {od_33 an_33 : Option Addr} {sl_33 : Array (Option Value)} {oc_33 kV_33 dc_33 pm_33 cd_33 ct_33 : Value}
    {od_34 an_34 : Option Addr} {sl_34 : Array (Option Value)} {oc_34 kV_34 dc_34 pm_34 cd_34 ct_34 : Value}
    {od_35 an_35 : Option Addr} {sl_35 : Array (Option Value)} {oc_35 kV_35 dc_35 pm_35 cd_35 ct_35 : Value}
    {od_36 an_36 : Option Addr} {sl_36 : Array (Option Value)} {oc_36 kV_36 dc_36 pm_36 cd_36 ct_36 : Value}
    {od_37 an_37 : Option Addr} {sl_37 : Array (Option Value)} {oc_37 kV_37 dc_37 pm_37 cd_37 ct_37 : Value}
    {od_38 an_38 : Option Addr} {sl_38 : Array (Option Value)} {oc_38 kV_38 dc_38 pm_38 cd_38 ct_38 : Value}
    {od_39 an_39 : Option Addr} {sl_39 : Array (Option Value)} {oc_39 kV_39 dc_39 pm_39 cd_39 ct_39 : Value}
    {od_40 an_40 : Option Addr} {sl_40 : Array (Option Value)} {oc_40 kV_40 dc_40 pm_40 cd_40 ct_40 : Value}
    {od_41 an_41 : Option Addr} {sl_41 : Array (Option Value)} {oc_41 kV_41 dc_41 pm_41 cd_41 ct_41 : Value}
    {od_42 an_42 : Option Addr} {sl_42 : Array (Option Value)} {oc_42 kV_42 dc_42 pm_42 cd_42 ct_42 : Value}
    {od_43 an_43 : Option Addr} {sl_43 : Array (Option Value)} {oc_43 kV_43 dc_43 pm_43 cd_43 ct_43 : Value}
    {od_44 an_44 : Option Addr} {sl_44 : Array (Option Value)} {oc_44 kV_44 dc_44 pm_44 cd_44 ct_44 : Value}
    {od_45 an_45 : Option Addr} {sl_45 : Array (Option Value)} {oc_45 kV_45 dc_45 pm_45 cd_45 ct_45 : Value}
    {od_46 an_46 : Option Addr} {sl_46 : Array (Option Value)} {oc_46 kV_46 dc_46 pm_46 cd_46 ct_46 : Value}
    {od_47 an_47 : Option Addr} {sl_47 : Array (Option Value)} {oc_47 kV_47 dc_47 pm_47 cd_47 ct_47 : Value}
    {od_48 an_48 : Option Addr} {sl_48 : Array (Option Value)} {oc_48 kV_48 dc_48 pm_48 cd_48 ct_48 : Value}
    {od_49 an_49 : Option Addr} {sl_49 : Array (Option Value)} {oc_49 kV_49 dc_49 pm_49 cd_49 ct_49 : Value}
    {od_50 an_50 : Option Addr} {sl_50 : Array (Option Value)} {oc_50 kV_50 dc_50 pm_50 cd_50 ct_50 : Value}
    {od_51 an_51 : Option Addr} {sl_51 : Array (Option Value)} {oc_51 kV_51 dc_51 pm_51 cd_51 ct_51 : Value}
    {od_52 an_52 : Option Addr} {sl_52 : Array (Option Value)} {oc_52 kV_52 dc_52 pm_52 cd_52 ct_52 : Value}
    {od_53 an_53 : Option Addr} {sl_53 : Array (Option Value)} {oc_53 kV_53 dc_53 pm_53 cd_53 ct_53 : Value}
    {od_54 an_54 : Option Addr} {sl_54 : Array (Option Value)} {oc_54 kV_54 dc_54 pm_54 cd_54 ct_54 : Value}
    (z_abs : PySem.W.nsIn K mainGlobals "abs" = some none)
    (z_all : PySem.W.nsIn K mainGlobals "all" = some none)
    (z_any : PySem.W.nsIn K mainGlobals "any" = some none)
    (z_bool : PySem.W.nsIn K mainGlobals "bool" = some none)
    (z_enumerate : PySem.W.nsIn K mainGlobals "enumerate" = some none)
    (z_int : PySem.W.nsIn K mainGlobals "int" = some none)
    (z_isinstance : PySem.W.nsIn K mainGlobals "isinstance" = some none)
    (z_len : PySem.W.nsIn K mainGlobals "len" = some none)
    (z_list : PySem.W.nsIn K mainGlobals "list" = some none)
    (z_max : PySem.W.nsIn K mainGlobals "max" = some none)
    (z_min : PySem.W.nsIn K mainGlobals "min" = some none)
    (z_range : PySem.W.nsIn K mainGlobals "range" = some none)
    (z_set : PySem.W.nsIn K mainGlobals "set" = some none)
    (z_sorted : PySem.W.nsIn K mainGlobals "sorted" = some none)
    (z_str : PySem.W.nsIn K mainGlobals "str" = some none)
    (z_sum : PySem.W.nsIn K mainGlobals "sum" = some none)
    (z_tuple : PySem.W.nsIn K mainGlobals "tuple" = some none)
    (g_FAR : PySem.W.nsIn K mainGlobals "FAR" = some (some (.str "far" t_FAR)))
    (g_GONE : PySem.W.nsIn K mainGlobals "GONE" = some (some (.str "gone" t_GONE)))
    (g_MOST_COPIES : PySem.W.nsIn K mainGlobals "MOST_COPIES" = some (some (.int 12 t_MOST_COPIES)))
    (g_MOST_LAG : PySem.W.nsIn K mainGlobals "MOST_LAG" = some (some (.int 200 t_MOST_LAG)))
    (g_MOST_PIECES : PySem.W.nsIn K mainGlobals "MOST_PIECES" = some (some (.int 6 t_MOST_PIECES)))
    (g_NEAR : PySem.W.nsIn K mainGlobals "NEAR" = some (some (.str "near" t_NEAR)))
    (aC_Numbers : PySem.W.nsIn K mainGlobals "Numbers" = some (some (.ref C_Numbers)))
    (pg_Numbers : PySem.W.plainGet K C_Numbers Str.empty = true)
    (hd_Numbers : PySem.W.hasDictIn K C_Numbers = true)
    (po_Numbers : PySem.W.plainOver K C_Numbers = true)
    (sa_Numbers : PySem.W.findIn K (.ref C_Numbers) "__setattr__" = some (some (.builtin "object.__setattr__")))
    (mk_Numbers : PySem.W.makesIn K C_Numbers = true)
    (kc_Numbers : PySem.W.keepIn K (.ref C_Numbers) = true)
    (n_Numbers_k : PySem.W.findIn K (.ref C_Numbers) "k" = some none)
    (n_Numbers_f : PySem.W.findIn K (.ref C_Numbers) "f" = some none)
    (n_Numbers_d : PySem.W.findIn K (.ref C_Numbers) "d" = some none)
    (n_Numbers_m : PySem.W.findIn K (.ref C_Numbers) "m" = some none)
    (n_Numbers_w1 : PySem.W.findIn K (.ref C_Numbers) "w1" = some none)
    (n_Numbers_w2 : PySem.W.findIn K (.ref C_Numbers) "w2" = some none)
    (n_Numbers_g : PySem.W.findIn K (.ref C_Numbers) "g" = some none)
    (aC_Thin : PySem.W.nsIn K mainGlobals "Thin" = some (some (.ref C_Thin)))
    (pg_Thin : PySem.W.plainGet K C_Thin Str.empty = true)
    (hd_Thin : PySem.W.hasDictIn K C_Thin = true)
    (po_Thin : PySem.W.plainOver K C_Thin = true)
    (sa_Thin : PySem.W.findIn K (.ref C_Thin) "__setattr__" = some (some (.builtin "object.__setattr__")))
    (mk_Thin : PySem.W.makesIn K C_Thin = true)
    (kc_Thin : PySem.W.keepIn K (.ref C_Thin) = true)
    (n_Thin_p : PySem.W.findIn K (.ref C_Thin) "p" = some none)
    (n_Thin_q : PySem.W.findIn K (.ref C_Thin) "q" = some none)
    (n_Thin_ins : PySem.W.findIn K (.ref C_Thin) "ins" = some none)
    (n_Thin_others : PySem.W.findIn K (.ref C_Thin) "others" = some none)
    (is_f2 : PySem.W.specialIn K (.builtin "object.__class__") "__get__" = some (some (.builtin "getset_descriptor.__get__")))
    (is_f3 : PySem.W.takesIn K (.builtin "object.__class__") = some true)
    (is_f1_Numbers : PySem.W.findIn K (.ref C_Numbers) "__class__" = some (some (.builtin "object.__class__")))
    (is_f4_Numbers : PySem.W.mroIn K C_Numbers (.type "object") = some true)
    (is_u_Numbers_int : PySem.W.mroIn K C_Numbers (.type "int") = some false)
    (is_u_Numbers_bool : PySem.W.mroIn K C_Numbers (.type "bool") = some false)
    (is_u_Numbers_str : PySem.W.mroIn K C_Numbers (.type "str") = some false)
    (is_u_Numbers_tuple : PySem.W.mroIn K C_Numbers (.type "tuple") = some false)
    (is_u_Numbers_list : PySem.W.mroIn K C_Numbers (.type "list") = some false)
    (is_f1_Thin : PySem.W.findIn K (.ref C_Thin) "__class__" = some (some (.builtin "object.__class__")))
    (is_f4_Thin : PySem.W.mroIn K C_Thin (.type "object") = some true)
    (is_u_Thin_int : PySem.W.mroIn K C_Thin (.type "int") = some false)
    (is_u_Thin_bool : PySem.W.mroIn K C_Thin (.type "bool") = some false)
    (is_u_Thin_str : PySem.W.mroIn K C_Thin (.type "str") = some false)
    (is_u_Thin_tuple : PySem.W.mroIn K C_Thin (.type "tuple") = some false)
    (is_u_Thin_list : PySem.W.mroIn K C_Thin (.type "list") = some false)
    (is_z_Numbers : PySem.W.typeIn K (.ref C_Numbers) = some (.type "type"))
    (is_y_Numbers : PySem.W.subIn K (.ref C_Numbers) (.ref C_Numbers) = some true)
    (is_p_Thin_Numbers : PySem.W.subIn K (.ref C_Thin) (.ref C_Numbers) = some false)
    (is_z_Thin : PySem.W.typeIn K (.ref C_Thin) = some (.type "type"))
    (is_y_Thin : PySem.W.subIn K (.ref C_Thin) (.ref C_Thin) = some true)
    (is_p_Numbers_Thin : PySem.W.subIn K (.ref C_Numbers) (.ref C_Thin) = some false)
    (a_0 : PySem.W.nsIn K mainGlobals "is_integer" = some (some (.ref f_0)))
    (l_0 : K.lookup f_0 = some ⟨oc_0, od_0, .func (PySem.W.fnOf "is_integer" "is_integer" (defArgs s_is_integer) (defBody s_is_integer) (defScope s_is_integer) .none kV_0 dc_0 pm_0 an_0 cd_0 ct_0), sl_0⟩)
    (c_0 : PySem.W.codeIn K cd_0 "is_integer" = true)
    (k_0 : PySem.W.keepIn K (.ref f_0) = true)
    (a_1 : PySem.W.nsIn K mainGlobals "is_number" = some (some (.ref f_1)))
    (l_1 : K.lookup f_1 = some ⟨oc_1, od_1, .func (PySem.W.fnOf "is_number" "is_number" (defArgs s_is_number) (defBody s_is_number) (defScope s_is_number) (.ref tT_1) kV_1 dc_1 pm_1 an_1 cd_1 ct_1), sl_1⟩)
    (c_1 : PySem.W.codeIn K cd_1 "is_number" = true)
    (k_1 : PySem.W.keepIn K (.ref f_1) = true)
    (t_1 : K.lookup tT_1 = some ⟨ocT_1, odT_1, .seq ([.none] : List Value).toArray nT_1, slT_1⟩)
    (a_2 : PySem.W.nsIn K mainGlobals "comers" = some (some (.ref f_2)))
    (l_2 : K.lookup f_2 = some ⟨oc_2, od_2, .func (PySem.W.fnOf "comers" "comers" (defArgs s_comers) (defBody s_comers) (defScope s_comers) .none kV_2 dc_2 pm_2 an_2 cd_2 ct_2), sl_2⟩)
    (c_2 : PySem.W.codeIn K cd_2 "comers" = true)
    (k_2 : PySem.W.keepIn K (.ref f_2) = true)
    (a_3 : PySem.W.nsIn K mainGlobals "in_both" = some (some (.ref f_3)))
    (l_3 : K.lookup f_3 = some ⟨oc_3, od_3, .func (PySem.W.fnOf "in_both" "in_both" (defArgs s_in_both) (defBody s_in_both) (defScope s_in_both) .none kV_3 dc_3 pm_3 an_3 cd_3 ct_3), sl_3⟩)
    (c_3 : PySem.W.codeIn K cd_3 "in_both" = true)
    (k_3 : PySem.W.keepIn K (.ref f_3) = true)
    (a_4 : PySem.W.nsIn K mainGlobals "lot_without" = some (some (.ref f_4)))
    (l_4 : K.lookup f_4 = some ⟨oc_4, od_4, .func (PySem.W.fnOf "lot_without" "lot_without" (defArgs s_lot_without) (defBody s_lot_without) (defScope s_lot_without) .none kV_4 dc_4 pm_4 an_4 cd_4 ct_4), sl_4⟩)
    (c_4 : PySem.W.codeIn K cd_4 "lot_without" = true)
    (k_4 : PySem.W.keepIn K (.ref f_4) = true)
    (a_5 : PySem.W.nsIn K mainGlobals "line_from" = some (some (.ref f_5)))
    (l_5 : K.lookup f_5 = some ⟨oc_5, od_5, .func (PySem.W.fnOf "line_from" "line_from" (defArgs s_line_from) (defBody s_line_from) (defScope s_line_from) .none kV_5 dc_5 pm_5 an_5 cd_5 ct_5), sl_5⟩)
    (c_5 : PySem.W.codeIn K cd_5 "line_from" = true)
    (k_5 : PySem.W.keepIn K (.ref f_5) = true)
    (a_6 : PySem.W.nsIn K mainGlobals "blanks" = some (some (.ref f_6)))
    (l_6 : K.lookup f_6 = some ⟨oc_6, od_6, .func (PySem.W.fnOf "blanks" "blanks" (defArgs s_blanks) (defBody s_blanks) (defScope s_blanks) .none kV_6 dc_6 pm_6 an_6 cd_6 ct_6), sl_6⟩)
    (c_6 : PySem.W.codeIn K cd_6 "blanks" = true)
    (k_6 : PySem.W.keepIn K (.ref f_6) = true)
    (a_7 : PySem.W.nsIn K mainGlobals "open_words" = some (some (.ref f_7)))
    (l_7 : K.lookup f_7 = some ⟨oc_7, od_7, .func (PySem.W.fnOf "open_words" "open_words" (defArgs s_open_words) (defBody s_open_words) (defScope s_open_words) .none kV_7 dc_7 pm_7 an_7 cd_7 ct_7), sl_7⟩)
    (c_7 : PySem.W.codeIn K cd_7 "open_words" = true)
    (k_7 : PySem.W.keepIn K (.ref f_7) = true)
    (a_8 : PySem.W.nsIn K mainGlobals "share_of" = some (some (.ref f_8)))
    (l_8 : K.lookup f_8 = some ⟨oc_8, od_8, .func (PySem.W.fnOf "share_of" "share_of" (defArgs s_share_of) (defBody s_share_of) (defScope s_share_of) .none kV_8 dc_8 pm_8 an_8 cd_8 ct_8), sl_8⟩)
    (c_8 : PySem.W.codeIn K cd_8 "share_of" = true)
    (k_8 : PySem.W.keepIn K (.ref f_8) = true)
    (a_9 : PySem.W.nsIn K mainGlobals "most_common" = some (some (.ref f_9)))
    (l_9 : K.lookup f_9 = some ⟨oc_9, od_9, .func (PySem.W.fnOf "most_common" "most_common" (defArgs s_most_common) (defBody s_most_common) (defScope s_most_common) .none kV_9 dc_9 pm_9 an_9 cd_9 ct_9), sl_9⟩)
    (c_9 : PySem.W.codeIn K cd_9 "most_common" = true)
    (k_9 : PySem.W.keepIn K (.ref f_9) = true)
    (a_10 : PySem.W.nsIn K mainGlobals "least_copies" = some (some (.ref f_10)))
    (l_10 : K.lookup f_10 = some ⟨oc_10, od_10, .func (PySem.W.fnOf "least_copies" "least_copies" (defArgs s_least_copies) (defBody s_least_copies) (defScope s_least_copies) .none kV_10 dc_10 pm_10 an_10 cd_10 ct_10), sl_10⟩)
    (c_10 : PySem.W.codeIn K cd_10 "least_copies" = true)
    (k_10 : PySem.W.keepIn K (.ref f_10) = true)
    (a_11 : PySem.W.findIn K (.ref C_Numbers) "__init__" = some (some (.ref f_11)))
    (i_11 : PySem.W.isFn K (.ref f_11) = true)
    (l_11 : K.lookup f_11 = some ⟨oc_11, od_11, .func (PySem.W.fnOf "__init__" "Numbers.__init__" (defArgs s_Numbers_init) (defBody s_Numbers_init) (defScope s_Numbers_init) .none kV_11 dc_11 pm_11 an_11 cd_11 ct_11), sl_11⟩)
    (c_11 : PySem.W.codeIn K cd_11 "Numbers.__init__" = true)
    (k_11 : PySem.W.keepIn K (.ref f_11) = true)
    (a_12 : PySem.W.nsIn K mainGlobals "can_end" = some (some (.ref f_12)))
    (l_12 : K.lookup f_12 = some ⟨oc_12, od_12, .func (PySem.W.fnOf "can_end" "can_end" (defArgs s_can_end) (defBody s_can_end) (defScope s_can_end) .none kV_12 dc_12 pm_12 an_12 cd_12 ct_12), sl_12⟩)
    (c_12 : PySem.W.codeIn K cd_12 "can_end" = true)
    (k_12 : PySem.W.keepIn K (.ref f_12) = true)
    (a_13 : PySem.W.nsIn K mainGlobals "least_counts" = some (some (.ref f_13)))
    (l_13 : K.lookup f_13 = some ⟨oc_13, od_13, .func (PySem.W.fnOf "least_counts" "least_counts" (defArgs s_least_counts) (defBody s_least_counts) (defScope s_least_counts) .none kV_13 dc_13 pm_13 an_13 cd_13 ct_13), sl_13⟩)
    (c_13 : PySem.W.codeIn K cd_13 "least_counts" = true)
    (k_13 : PySem.W.keepIn K (.ref f_13) = true)
    (a_14 : PySem.W.nsIn K mainGlobals "least_numbers" = some (some (.ref f_14)))
    (l_14 : K.lookup f_14 = some ⟨oc_14, od_14, .func (PySem.W.fnOf "least_numbers" "least_numbers" (defArgs s_least_numbers) (defBody s_least_numbers) (defScope s_least_numbers) .none kV_14 dc_14 pm_14 an_14 cd_14 ct_14), sl_14⟩)
    (c_14 : PySem.W.codeIn K cd_14 "least_numbers" = true)
    (k_14 : PySem.W.keepIn K (.ref f_14) = true)
    (a_15 : PySem.W.nsIn K mainGlobals "near_slack" = some (some (.ref f_15)))
    (l_15 : K.lookup f_15 = some ⟨oc_15, od_15, .func (PySem.W.fnOf "near_slack" "near_slack" (defArgs s_near_slack) (defBody s_near_slack) (defScope s_near_slack) .none kV_15 dc_15 pm_15 an_15 cd_15 ct_15), sl_15⟩)
    (c_15 : PySem.W.codeIn K cd_15 "near_slack" = true)
    (k_15 : PySem.W.keepIn K (.ref f_15) = true)
    (a_16 : PySem.W.nsIn K mainGlobals "far_slack" = some (some (.ref f_16)))
    (l_16 : K.lookup f_16 = some ⟨oc_16, od_16, .func (PySem.W.fnOf "far_slack" "far_slack" (defArgs s_far_slack) (defBody s_far_slack) (defScope s_far_slack) .none kV_16 dc_16 pm_16 an_16 cd_16 ct_16), sl_16⟩)
    (c_16 : PySem.W.codeIn K cd_16 "far_slack" = true)
    (k_16 : PySem.W.keepIn K (.ref f_16) = true)
    (a_17 : PySem.W.nsIn K mainGlobals "mend_slack" = some (some (.ref f_17)))
    (l_17 : K.lookup f_17 = some ⟨oc_17, od_17, .func (PySem.W.fnOf "mend_slack" "mend_slack" (defArgs s_mend_slack) (defBody s_mend_slack) (defScope s_mend_slack) .none kV_17 dc_17 pm_17 an_17 cd_17 ct_17), sl_17⟩)
    (c_17 : PySem.W.codeIn K cd_17 "mend_slack" = true)
    (k_17 : PySem.W.keepIn K (.ref f_17) = true)
    (a_18 : PySem.W.nsIn K mainGlobals "is_single" = some (some (.ref f_18)))
    (l_18 : K.lookup f_18 = some ⟨oc_18, od_18, .func (PySem.W.fnOf "is_single" "is_single" (defArgs s_is_single) (defBody s_is_single) (defScope s_is_single) .none kV_18 dc_18 pm_18 an_18 cd_18 ct_18), sl_18⟩)
    (c_18 : PySem.W.codeIn K cd_18 "is_single" = true)
    (k_18 : PySem.W.keepIn K (.ref f_18) = true)
    (a_19 : PySem.W.nsIn K mainGlobals "is_lasting" = some (some (.ref f_19)))
    (l_19 : K.lookup f_19 = some ⟨oc_19, od_19, .func (PySem.W.fnOf "is_lasting" "is_lasting" (defArgs s_is_lasting) (defBody s_is_lasting) (defScope s_is_lasting) .none kV_19 dc_19 pm_19 an_19 cd_19 ct_19), sl_19⟩)
    (c_19 : PySem.W.codeIn K cd_19 "is_lasting" = true)
    (k_19 : PySem.W.keepIn K (.ref f_19) = true)
    (a_20 : PySem.W.nsIn K mainGlobals "times_over" = some (some (.ref f_20)))
    (l_20 : K.lookup f_20 = some ⟨oc_20, od_20, .func (PySem.W.fnOf "times_over" "times_over" (defArgs s_times_over) (defBody s_times_over) (defScope s_times_over) .none kV_20 dc_20 pm_20 an_20 cd_20 ct_20), sl_20⟩)
    (c_20 : PySem.W.codeIn K cd_20 "times_over" = true)
    (k_20 : PySem.W.keepIn K (.ref f_20) = true)
    (a_21 : PySem.W.nsIn K mainGlobals "keepers_beyond" = some (some (.ref f_21)))
    (l_21 : K.lookup f_21 = some ⟨oc_21, od_21, .func (PySem.W.fnOf "keepers_beyond" "keepers_beyond" (defArgs s_keepers_beyond) (defBody s_keepers_beyond) (defScope s_keepers_beyond) .none kV_21 dc_21 pm_21 an_21 cd_21 ct_21), sl_21⟩)
    (c_21 : PySem.W.codeIn K cd_21 "keepers_beyond" = true)
    (k_21 : PySem.W.keepIn K (.ref f_21) = true)
    (a_22 : PySem.W.nsIn K mainGlobals "words_to_gone" = some (some (.ref f_22)))
    (l_22 : K.lookup f_22 = some ⟨oc_22, od_22, .func (PySem.W.fnOf "words_to_gone" "words_to_gone" (defArgs s_words_to_gone) (defBody s_words_to_gone) (defScope s_words_to_gone) .none kV_22 dc_22 pm_22 an_22 cd_22 ct_22), sl_22⟩)
    (c_22 : PySem.W.codeIn K cd_22 "words_to_gone" = true)
    (k_22 : PySem.W.keepIn K (.ref f_22) = true)
    (a_23 : PySem.W.nsIn K mainGlobals "least_triples" = some (some (.ref f_23)))
    (l_23 : K.lookup f_23 = some ⟨oc_23, od_23, .func (PySem.W.fnOf "least_triples" "least_triples" (defArgs s_least_triples) (defBody s_least_triples) (defScope s_least_triples) .none kV_23 dc_23 pm_23 an_23 cd_23 ct_23), sl_23⟩)
    (c_23 : PySem.W.codeIn K cd_23 "least_triples" = true)
    (k_23 : PySem.W.keepIn K (.ref f_23) = true)
    (a_24 : PySem.W.nsIn K mainGlobals "kinds_of" = some (some (.ref f_24)))
    (l_24 : K.lookup f_24 = some ⟨oc_24, od_24, .func (PySem.W.fnOf "kinds_of" "kinds_of" (defArgs s_kinds_of) (defBody s_kinds_of) (defScope s_kinds_of) .none kV_24 dc_24 pm_24 an_24 cd_24 ct_24), sl_24⟩)
    (c_24 : PySem.W.codeIn K cd_24 "kinds_of" = true)
    (k_24 : PySem.W.keepIn K (.ref f_24) = true)
    (a_25 : PySem.W.nsIn K mainGlobals "plain_slack" = some (some (.ref f_25)))
    (l_25 : K.lookup f_25 = some ⟨oc_25, od_25, .func (PySem.W.fnOf "plain_slack" "plain_slack" (defArgs s_plain_slack) (defBody s_plain_slack) (defScope s_plain_slack) .none kV_25 dc_25 pm_25 an_25 cd_25 ct_25), sl_25⟩)
    (c_25 : PySem.W.codeIn K cd_25 "plain_slack" = true)
    (k_25 : PySem.W.keepIn K (.ref f_25) = true)
    (a_26 : PySem.W.nsIn K mainGlobals "plain_lasts" = some (some (.ref f_26)))
    (l_26 : K.lookup f_26 = some ⟨oc_26, od_26, .func (PySem.W.fnOf "plain_lasts" "plain_lasts" (defArgs s_plain_lasts) (defBody s_plain_lasts) (defScope s_plain_lasts) .none kV_26 dc_26 pm_26 an_26 cd_26 ct_26), sl_26⟩)
    (c_26 : PySem.W.codeIn K cd_26 "plain_lasts" = true)
    (k_26 : PySem.W.keepIn K (.ref f_26) = true)
    (a_27 : PySem.W.nsIn K mainGlobals "plain_words" = some (some (.ref f_27)))
    (l_27 : K.lookup f_27 = some ⟨oc_27, od_27, .func (PySem.W.fnOf "plain_words" "plain_words" (defArgs s_plain_words) (defBody s_plain_words) (defScope s_plain_words) .none kV_27 dc_27 pm_27 an_27 cd_27 ct_27), sl_27⟩)
    (c_27 : PySem.W.codeIn K cd_27 "plain_words" = true)
    (k_27 : PySem.W.keepIn K (.ref f_27) = true)
    (a_28 : PySem.W.nsIn K mainGlobals "plain_reads" = some (some (.ref f_28)))
    (l_28 : K.lookup f_28 = some ⟨oc_28, od_28, .func (PySem.W.fnOf "plain_reads" "plain_reads" (defArgs s_plain_reads) (defBody s_plain_reads) (defScope s_plain_reads) .none kV_28 dc_28 pm_28 an_28 cd_28 ct_28), sl_28⟩)
    (c_28 : PySem.W.codeIn K cd_28 "plain_reads" = true)
    (k_28 : PySem.W.keepIn K (.ref f_28) = true)
    (a_29 : PySem.W.nsIn K mainGlobals "plain_copies" = some (some (.ref f_29)))
    (l_29 : K.lookup f_29 = some ⟨oc_29, od_29, .func (PySem.W.fnOf "plain_copies" "plain_copies" (defArgs s_plain_copies) (defBody s_plain_copies) (defScope s_plain_copies) .none kV_29 dc_29 pm_29 an_29 cd_29 ct_29), sl_29⟩)
    (c_29 : PySem.W.codeIn K cd_29 "plain_copies" = true)
    (k_29 : PySem.W.keepIn K (.ref f_29) = true)
    (a_30 : PySem.W.nsIn K mainGlobals "bound_of" = some (some (.ref f_30)))
    (l_30 : K.lookup f_30 = some ⟨oc_30, od_30, .func (PySem.W.fnOf "bound_of" "bound_of" (defArgs s_bound_of) (defBody s_bound_of) (defScope s_bound_of) .none kV_30 dc_30 pm_30 an_30 cd_30 ct_30), sl_30⟩)
    (c_30 : PySem.W.codeIn K cd_30 "bound_of" = true)
    (k_30 : PySem.W.keepIn K (.ref f_30) = true)
    (a_31 : PySem.W.nsIn K mainGlobals "sees" = some (some (.ref f_31)))
    (l_31 : K.lookup f_31 = some ⟨oc_31, od_31, .func (PySem.W.fnOf "sees" "sees" (defArgs s_sees) (defBody s_sees) (defScope s_sees) .none kV_31 dc_31 pm_31 an_31 cd_31 ct_31), sl_31⟩)
    (c_31 : PySem.W.codeIn K cd_31 "sees" = true)
    (k_31 : PySem.W.keepIn K (.ref f_31) = true)
    (a_32 : PySem.W.nsIn K mainGlobals "least_asked" = some (some (.ref f_32)))
    (l_32 : K.lookup f_32 = some ⟨oc_32, od_32, .func (PySem.W.fnOf "least_asked" "least_asked" (defArgs s_least_asked) (defBody s_least_asked) (defScope s_least_asked) .none kV_32 dc_32 pm_32 an_32 cd_32 ct_32), sl_32⟩)
    (c_32 : PySem.W.codeIn K cd_32 "least_asked" = true)
    (k_32 : PySem.W.keepIn K (.ref f_32) = true)
    (a_33 : PySem.W.nsIn K mainGlobals "sees_with_ends" = some (some (.ref f_33)))
    (l_33 : K.lookup f_33 = some ⟨oc_33, od_33, .func (PySem.W.fnOf "sees_with_ends" "sees_with_ends" (defArgs s_sees_with_ends) (defBody s_sees_with_ends) (defScope s_sees_with_ends) .none kV_33 dc_33 pm_33 an_33 cd_33 ct_33), sl_33⟩)
    (c_33 : PySem.W.codeIn K cd_33 "sees_with_ends" = true)
    (k_33 : PySem.W.keepIn K (.ref f_33) = true)
    (a_34 : PySem.W.findIn K (.ref C_Thin) "__init__" = some (some (.ref f_34)))
    (i_34 : PySem.W.isFn K (.ref f_34) = true)
    (l_34 : K.lookup f_34 = some ⟨oc_34, od_34, .func (PySem.W.fnOf "__init__" "Thin.__init__" (defArgs s_Thin_init) (defBody s_Thin_init) (defScope s_Thin_init) .none kV_34 dc_34 pm_34 an_34 cd_34 ct_34), sl_34⟩)
    (c_34 : PySem.W.codeIn K cd_34 "Thin.__init__" = true)
    (k_34 : PySem.W.keepIn K (.ref f_34) = true)
    (a_35 : PySem.W.nsIn K mainGlobals "only_first" = some (some (.ref f_35)))
    (l_35 : K.lookup f_35 = some ⟨oc_35, od_35, .func (PySem.W.fnOf "only_first" "only_first" (defArgs s_only_first) (defBody s_only_first) (defScope s_only_first) .none kV_35 dc_35 pm_35 an_35 cd_35 ct_35), sl_35⟩)
    (c_35 : PySem.W.codeIn K cd_35 "only_first" = true)
    (k_35 : PySem.W.keepIn K (.ref f_35) = true)
    (a_36 : PySem.W.nsIn K mainGlobals "far_lots" = some (some (.ref f_36)))
    (l_36 : K.lookup f_36 = some ⟨oc_36, od_36, .func (PySem.W.fnOf "far_lots" "far_lots" (defArgs s_far_lots) (defBody s_far_lots) (defScope s_far_lots) .none kV_36 dc_36 pm_36 an_36 cd_36 ct_36), sl_36⟩)
    (c_36 : PySem.W.codeIn K cd_36 "far_lots" = true)
    (k_36 : PySem.W.keepIn K (.ref f_36) = true)
    (a_37 : PySem.W.nsIn K mainGlobals "pairs_within" = some (some (.ref f_37)))
    (l_37 : K.lookup f_37 = some ⟨oc_37, od_37, .func (PySem.W.fnOf "pairs_within" "pairs_within" (defArgs s_pairs_within) (defBody s_pairs_within) (defScope s_pairs_within) .none kV_37 dc_37 pm_37 an_37 cd_37 ct_37), sl_37⟩)
    (c_37 : PySem.W.codeIn K cd_37 "pairs_within" = true)
    (k_37 : PySem.W.keepIn K (.ref f_37) = true)
    (a_38 : PySem.W.nsIn K mainGlobals "thin_of" = some (some (.ref f_38)))
    (l_38 : K.lookup f_38 = some ⟨oc_38, od_38, .func (PySem.W.fnOf "thin_of" "thin_of" (defArgs s_thin_of) (defBody s_thin_of) (defScope s_thin_of) .none kV_38 dc_38 pm_38 an_38 cd_38 ct_38), sl_38⟩)
    (c_38 : PySem.W.codeIn K cd_38 "thin_of" = true)
    (k_38 : PySem.W.keepIn K (.ref f_38) = true)
    (a_39 : PySem.W.nsIn K mainGlobals "_law_heap" = some (some (.ref f_39)))
    (l_39 : K.lookup f_39 = some ⟨oc_39, od_39, .func (PySem.W.fnOf "_law_heap" "_law_heap" (defArgs s__law_heap) (defBody s__law_heap) (defScope s__law_heap) .none kV_39 dc_39 pm_39 an_39 cd_39 ct_39), sl_39⟩)
    (c_39 : PySem.W.codeIn K cd_39 "_law_heap" = true)
    (k_39 : PySem.W.keepIn K (.ref f_39) = true)
    (a_40 : PySem.W.nsIn K mainGlobals "_law_draw" = some (some (.ref f_40)))
    (l_40 : K.lookup f_40 = some ⟨oc_40, od_40, .func (PySem.W.fnOf "_law_draw" "_law_draw" (defArgs s__law_draw) (defBody s__law_draw) (defScope s__law_draw) .none kV_40 dc_40 pm_40 an_40 cd_40 ct_40), sl_40⟩)
    (c_40 : PySem.W.codeIn K cd_40 "_law_draw" = true)
    (k_40 : PySem.W.keepIn K (.ref f_40) = true)
    (a_41 : PySem.W.nsIn K mainGlobals "_law_pick" = some (some (.ref f_41)))
    (l_41 : K.lookup f_41 = some ⟨oc_41, od_41, .func (PySem.W.fnOf "_law_pick" "_law_pick" (defArgs s__law_pick) (defBody s__law_pick) (defScope s__law_pick) .none kV_41 dc_41 pm_41 an_41 cd_41 ct_41), sl_41⟩)
    (c_41 : PySem.W.codeIn K cd_41 "_law_pick" = true)
    (k_41 : PySem.W.keepIn K (.ref f_41) = true)
    (a_42 : PySem.W.nsIn K mainGlobals "_law_mixed" = some (some (.ref f_42)))
    (l_42 : K.lookup f_42 = some ⟨oc_42, od_42, .func (PySem.W.fnOf "_law_mixed" "_law_mixed" (defArgs s__law_mixed) (defBody s__law_mixed) (defScope s__law_mixed) .none kV_42 dc_42 pm_42 an_42 cd_42 ct_42), sl_42⟩)
    (c_42 : PySem.W.codeIn K cd_42 "_law_mixed" = true)
    (k_42 : PySem.W.keepIn K (.ref f_42) = true)
    (a_43 : PySem.W.nsIn K mainGlobals "_law_like" = some (some (.ref f_43)))
    (l_43 : K.lookup f_43 = some ⟨oc_43, od_43, .func (PySem.W.fnOf "_law_like" "_law_like" (defArgs s__law_like) (defBody s__law_like) (defScope s__law_like) .none kV_43 dc_43 pm_43 an_43 cd_43 ct_43), sl_43⟩)
    (c_43 : PySem.W.codeIn K cd_43 "_law_like" = true)
    (k_43 : PySem.W.keepIn K (.ref f_43) = true)
    (a_44 : PySem.W.nsIn K mainGlobals "_law_some" = some (some (.ref f_44)))
    (l_44 : K.lookup f_44 = some ⟨oc_44, od_44, .func (PySem.W.fnOf "_law_some" "_law_some" (defArgs s__law_some) (defBody s__law_some) (defScope s__law_some) .none kV_44 dc_44 pm_44 an_44 cd_44 ct_44), sl_44⟩)
    (c_44 : PySem.W.codeIn K cd_44 "_law_some" = true)
    (k_44 : PySem.W.keepIn K (.ref f_44) = true)
    (a_45 : PySem.W.nsIn K mainGlobals "_law_lacks" = some (some (.ref f_45)))
    (l_45 : K.lookup f_45 = some ⟨oc_45, od_45, .func (PySem.W.fnOf "_law_lacks" "_law_lacks" (defArgs s__law_lacks) (defBody s__law_lacks) (defScope s__law_lacks) .none kV_45 dc_45 pm_45 an_45 cd_45 ct_45), sl_45⟩)
    (c_45 : PySem.W.codeIn K cd_45 "_law_lacks" = true)
    (k_45 : PySem.W.keepIn K (.ref f_45) = true)
    (a_46 : PySem.W.nsIn K mainGlobals "_law_gap" = some (some (.ref f_46)))
    (l_46 : K.lookup f_46 = some ⟨oc_46, od_46, .func (PySem.W.fnOf "_law_gap" "_law_gap" (defArgs s__law_gap) (defBody s__law_gap) (defScope s__law_gap) .none kV_46 dc_46 pm_46 an_46 cd_46 ct_46), sl_46⟩)
    (c_46 : PySem.W.codeIn K cd_46 "_law_gap" = true)
    (k_46 : PySem.W.keepIn K (.ref f_46) = true)
    (a_47 : PySem.W.nsIn K mainGlobals "_law_line" = some (some (.ref f_47)))
    (l_47 : K.lookup f_47 = some ⟨oc_47, od_47, .func (PySem.W.fnOf "_law_line" "_law_line" (defArgs s__law_line) (defBody s__law_line) (defScope s__law_line) .none kV_47 dc_47 pm_47 an_47 cd_47 ct_47), sl_47⟩)
    (c_47 : PySem.W.codeIn K cd_47 "_law_line" = true)
    (k_47 : PySem.W.keepIn K (.ref f_47) = true)
    (a_48 : PySem.W.nsIn K mainGlobals "_law_slow" = some (some (.ref f_48)))
    (l_48 : K.lookup f_48 = some ⟨oc_48, od_48, .func (PySem.W.fnOf "_law_slow" "_law_slow" (defArgs s__law_slow) (defBody s__law_slow) (defScope s__law_slow) .none kV_48 dc_48 pm_48 an_48 cd_48 ct_48), sl_48⟩)
    (c_48 : PySem.W.codeIn K cd_48 "_law_slow" = true)
    (k_48 : PySem.W.keepIn K (.ref f_48) = true)
    (a_49 : PySem.W.nsIn K mainGlobals "_law_stairs" = some (some (.ref f_49)))
    (l_49 : K.lookup f_49 = some ⟨oc_49, od_49, .func (PySem.W.fnOf "_law_stairs" "_law_stairs" (defArgs s__law_stairs) (defBody s__law_stairs) (defScope s__law_stairs) .none kV_49 dc_49 pm_49 an_49 cd_49 ct_49), sl_49⟩)
    (c_49 : PySem.W.codeIn K cd_49 "_law_stairs" = true)
    (k_49 : PySem.W.keepIn K (.ref f_49) = true)
    (a_50 : PySem.W.nsIn K mainGlobals "_law_never_open" = some (some (.ref f_50)))
    (l_50 : K.lookup f_50 = some ⟨oc_50, od_50, .func (PySem.W.fnOf "_law_never_open" "_law_never_open" (defArgs s__law_never_open) (defBody s__law_never_open) (defScope s__law_never_open) .none kV_50 dc_50 pm_50 an_50 cd_50 ct_50), sl_50⟩)
    (c_50 : PySem.W.codeIn K cd_50 "_law_never_open" = true)
    (k_50 : PySem.W.keepIn K (.ref f_50) = true)
    (a_51 : PySem.W.nsIn K mainGlobals "_law_some_open" = some (some (.ref f_51)))
    (l_51 : K.lookup f_51 = some ⟨oc_51, od_51, .func (PySem.W.fnOf "_law_some_open" "_law_some_open" (defArgs s__law_some_open) (defBody s__law_some_open) (defScope s__law_some_open) .none kV_51 dc_51 pm_51 an_51 cd_51 ct_51), sl_51⟩)
    (c_51 : PySem.W.codeIn K cd_51 "_law_some_open" = true)
    (k_51 : PySem.W.keepIn K (.ref f_51) = true)
    (a_52 : PySem.W.nsIn K mainGlobals "_law_sums_right" = some (some (.ref f_52)))
    (l_52 : K.lookup f_52 = some ⟨oc_52, od_52, .func (PySem.W.fnOf "_law_sums_right" "_law_sums_right" (defArgs s__law_sums_right) (defBody s__law_sums_right) (defScope s__law_sums_right) .none kV_52 dc_52 pm_52 an_52 cd_52 ct_52), sl_52⟩)
    (c_52 : PySem.W.codeIn K cd_52 "_law_sums_right" = true)
    (k_52 : PySem.W.keepIn K (.ref f_52) = true)
    (a_53 : PySem.W.nsIn K mainGlobals "_law_borders_right" = some (some (.ref f_53)))
    (l_53 : K.lookup f_53 = some ⟨oc_53, od_53, .func (PySem.W.fnOf "_law_borders_right" "_law_borders_right" (defArgs s__law_borders_right) (defBody s__law_borders_right) (defScope s__law_borders_right) .none kV_53 dc_53 pm_53 an_53 cd_53 ct_53), sl_53⟩)
    (c_53 : PySem.W.codeIn K cd_53 "_law_borders_right" = true)
    (k_53 : PySem.W.keepIn K (.ref f_53) = true)
    (a_54 : PySem.W.nsIn K mainGlobals "law" = some (some (.ref f_54)))
    (l_54 : K.lookup f_54 = some ⟨oc_54, od_54, .func (PySem.W.fnOf "law" "law" (defArgs s_law) (defBody s_law) (defScope s_law) .none kV_54 dc_54 pm_54 an_54 cd_54 ct_54), sl_54⟩)
    (c_54 : PySem.W.codeIn K cd_54 "law" = true)
    (k_54 : PySem.W.keepIn K (.ref f_54) = true)
    : ∃ fd : FuncData, (∀ (s : Shared) (v : Value), BindsTo s fd ⟨[v], []⟩ [("script", v)]) ∧ ∀ base : Heap, K.In base → base.Ns mainGlobals mg → FnOk l.prog w K mg base CX0 7 fa fd ["script"] (Vl.sp_law K) := by
  have e := hfa.symm.trans (PySem.W.mg_of X G a_54)
  cases e
  have F_is_integer := fun_mk (st := s_is_integer) l_0 c_0 k_0
  have b_is_integer := F_is_integer.binds (ps := ["value"]) fun _ _ _ _ _ _ us hl => match us, hl with | [_], _ => rfl
  have F_is_number : FunD K "is_number" "is_number" (defArgs s_is_number) (defBody s_is_number) (defScope s_is_number) [.non] [] f_1 _ := ⟨⟨_, _, _, _, _, _, _, _, _, _, rfl, l_1, c_1, .inr ⟨by simp, _, _, _, _, rfl, t_1, rfl, .cons rfl (.nil)⟩, .inl rfl⟩, k_1⟩
  obtain ⟨ds_is_number_0, hds_is_number_0, b_is_number_0⟩ := F_is_number.binds1 (ps := ["value", "most"]) 2 1 (by simp) (by rfl) (fun _ _ _ _ _ _ _ us its hl hi => match us, its, hl, hi with | [_, _], [_], _, _ => ⟨_, rfl, rfl⟩)
  cases hds_is_number_0
  have b_is_number := b_is_number_0
  have F_comers := fun_mk (st := s_comers) l_2 c_2 k_2
  have b_comers := F_comers.binds (ps := ["course", "i"]) fun _ _ _ _ _ _ us hl => match us, hl with | [_, _], _ => rfl
  have F_in_both := fun_mk (st := s_in_both) l_3 c_3 k_3
  have b_in_both := F_in_both.binds (ps := ["one", "other"]) fun _ _ _ _ _ _ us hl => match us, hl with | [_, _], _ => rfl
  have F_line_from := fun_mk (st := s_line_from) l_5 c_5 k_5
  have b_line_from := F_line_from.binds (ps := ["course", "numbers", "p", "liars", "keepers", "need"]) fun _ _ _ _ _ _ us hl => match us, hl with | [_, _, _, _, _, _], _ => rfl
  have F_blanks := fun_mk (st := s_blanks) l_6 c_6 k_6
  have b_blanks := F_blanks.binds (ps := ["course", "numbers", "p", "liars", "keepers", "need"]) fun _ _ _ _ _ _ us hl => match us, hl with | [_, _, _, _, _, _], _ => rfl
  have F_open_words := fun_mk (st := s_open_words) l_7 c_7 k_7
  have b_open_words := F_open_words.binds (ps := ["course", "numbers", "p", "liars", "keepers", "need"]) fun _ _ _ _ _ _ us hl => match us, hl with | [_, _, _, _, _, _], _ => rfl
  have F_share_of := fun_mk (st := s_share_of) l_8 c_8 k_8
  have b_share_of := F_share_of.binds (ps := ["is_signed"]) fun _ _ _ _ _ _ us hl => match us, hl with | [_], _ => rfl
  have F_most_common := fun_mk (st := s_most_common) l_9 c_9 k_9
  have b_most_common := F_most_common.binds (ps := ["f", "parts", "is_signed"]) fun _ _ _ _ _ _ us hl => match us, hl with | [_, _, _], _ => rfl
  have F_least_copies := fun_mk (st := s_least_copies) l_10 c_10 k_10
  have b_least_copies := F_least_copies.binds (ps := ["f", "spread", "parts", "is_signed"]) fun _ _ _ _ _ _ us hl => match us, hl with | [_, _, _, _], _ => rfl
  have F_Numbers_init := fun_mk (st := s_Numbers_init) l_11 c_11 k_11
  have b_Numbers_init := F_Numbers_init.binds (ps := ["self", "k", "f", "d", "m", "w1", "w2", "g"]) fun _ _ _ _ _ _ us hl => match us, hl with | [_, _, _, _, _, _, _, _], _ => rfl
  have F_can_end := fun_mk (st := s_can_end) l_12 c_12 k_12
  have b_can_end := F_can_end.binds (ps := ["numbers"]) fun _ _ _ _ _ _ us hl => match us, hl with | [_], _ => rfl
  have F_least_counts := fun_mk (st := s_least_counts) l_13 c_13 k_13
  have b_least_counts := F_least_counts.binds (ps := ["f", "spread", "m"]) fun _ _ _ _ _ _ us hl => match us, hl with | [_, _, _], _ => rfl
  have F_least_numbers := fun_mk (st := s_least_numbers) l_14 c_14 k_14
  have b_least_numbers := F_least_numbers.binds (ps := ["f", "spread", "d", "m"]) fun _ _ _ _ _ _ us hl => match us, hl with | [_, _, _, _], _ => rfl
  have F_near_slack := fun_mk (st := s_near_slack) l_15 c_15 k_15
  have b_near_slack := F_near_slack.binds (ps := ["numbers", "spread"]) fun _ _ _ _ _ _ us hl => match us, hl with | [_, _], _ => rfl
  have F_far_slack := fun_mk (st := s_far_slack) l_16 c_16 k_16
  have b_far_slack := F_far_slack.binds (ps := ["numbers", "spread"]) fun _ _ _ _ _ _ us hl => match us, hl with | [_, _], _ => rfl
  have F_mend_slack := fun_mk (st := s_mend_slack) l_17 c_17 k_17
  have b_mend_slack := F_mend_slack.binds (ps := ["numbers", "spread"]) fun _ _ _ _ _ _ us hl => match us, hl with | [_, _], _ => rfl
  have F_is_single := fun_mk (st := s_is_single) l_18 c_18 k_18
  have b_is_single := F_is_single.binds (ps := ["numbers", "spread"]) fun _ _ _ _ _ _ us hl => match us, hl with | [_, _], _ => rfl
  have F_is_lasting := fun_mk (st := s_is_lasting) l_19 c_19 k_19
  have b_is_lasting := F_is_lasting.binds (ps := ["numbers", "spread"]) fun _ _ _ _ _ _ us hl => match us, hl with | [_, _], _ => rfl
  have F_times_over := fun_mk (st := s_times_over) l_20 c_20 k_20
  have b_times_over := F_times_over.binds (ps := ["many", "spread"]) fun _ _ _ _ _ _ us hl => match us, hl with | [_, _], _ => rfl
  have F_keepers_beyond := fun_mk (st := s_keepers_beyond) l_21 c_21 k_21
  have b_keepers_beyond := F_keepers_beyond.binds (ps := ["numbers"]) fun _ _ _ _ _ _ us hl => match us, hl with | [_], _ => rfl
  have F_words_to_gone := fun_mk (st := s_words_to_gone) l_22 c_22 k_22
  have b_words_to_gone := F_words_to_gone.binds (ps := ["numbers", "spread"]) fun _ _ _ _ _ _ us hl => match us, hl with | [_, _], _ => rfl
  have F_least_triples := fun_mk (st := s_least_triples) l_23 c_23 k_23
  have b_least_triples := F_least_triples.binds (ps := ["k", "f", "m", "spread", "most"]) fun _ _ _ _ _ _ us hl => match us, hl with | [_, _, _, _, _], _ => rfl
  have F_kinds_of := fun_mk (st := s_kinds_of) l_24 c_24 k_24
  have b_kinds_of := F_kinds_of.binds (ps := ["numbers", "spread"]) fun _ _ _ _ _ _ us hl => match us, hl with | [_, _], _ => rfl
  have F_plain_slack := fun_mk (st := s_plain_slack) l_25 c_25 k_25
  have b_plain_slack := F_plain_slack.binds (ps := ["numbers", "spread"]) fun _ _ _ _ _ _ us hl => match us, hl with | [_, _], _ => rfl
  have F_plain_lasts := fun_mk (st := s_plain_lasts) l_26 c_26 k_26
  have b_plain_lasts := F_plain_lasts.binds (ps := ["numbers", "spread"]) fun _ _ _ _ _ _ us hl => match us, hl with | [_, _], _ => rfl
  have F_plain_words := fun_mk (st := s_plain_words) l_27 c_27 k_27
  have b_plain_words := F_plain_words.binds (ps := ["numbers", "spread"]) fun _ _ _ _ _ _ us hl => match us, hl with | [_, _], _ => rfl
  have F_plain_reads := fun_mk (st := s_plain_reads) l_28 c_28 k_28
  have b_plain_reads := F_plain_reads.binds (ps := ["numbers", "spread", "r"]) fun _ _ _ _ _ _ us hl => match us, hl with | [_, _, _], _ => rfl
  have F_plain_copies := fun_mk (st := s_plain_copies) l_29 c_29 k_29
  have b_plain_copies := F_plain_copies.binds (ps := ["f", "spread", "m"]) fun _ _ _ _ _ _ us hl => match us, hl with | [_, _, _], _ => rfl
  have F_bound_of := fun_mk (st := s_bound_of) l_30 c_30 k_30
  have b_bound_of := F_bound_of.binds (ps := ["numbers", "spread"]) fun _ _ _ _ _ _ us hl => match us, hl with | [_, _], _ => rfl
  have F_sees := fun_mk (st := s_sees) l_31 c_31 k_31
  have b_sees := F_sees.binds (ps := ["numbers", "spread", "r"]) fun _ _ _ _ _ _ us hl => match us, hl with | [_, _, _], _ => rfl
  have F_least_asked := fun_mk (st := s_least_asked) l_32 c_32 k_32
  have b_least_asked := F_least_asked.binds (ps := ["numbers", "spread"]) fun _ _ _ _ _ _ us hl => match us, hl with | [_, _], _ => rfl
  have F_sees_with_ends := fun_mk (st := s_sees_with_ends) l_33 c_33 k_33
  have b_sees_with_ends := F_sees_with_ends.binds (ps := ["numbers", "spread"]) fun _ _ _ _ _ _ us hl => match us, hl with | [_, _], _ => rfl
  have F_Thin_init := fun_mk (st := s_Thin_init) l_34 c_34 k_34
  have b_Thin_init := F_Thin_init.binds (ps := ["self", "p", "q", "ins", "others"]) fun _ _ _ _ _ _ us hl => match us, hl with | [_, _, _, _, _], _ => rfl
  have F_only_first := fun_mk (st := s_only_first) l_35 c_35 k_35
  have b_only_first := F_only_first.binds (ps := ["one", "other"]) fun _ _ _ _ _ _ us hl => match us, hl with | [_, _], _ => rfl
  have F_far_lots := fun_mk (st := s_far_lots) l_36 c_36 k_36
  have b_far_lots := F_far_lots.binds (ps := ["one", "other", "many"]) fun _ _ _ _ _ _ us hl => match us, hl with | [_, _, _], _ => rfl
  have F_pairs_within := fun_mk (st := s_pairs_within) l_37 c_37 k_37
  have b_pairs_within := F_pairs_within.binds (ps := ["course", "d"]) fun _ _ _ _ _ _ us hl => match us, hl with | [_, _], _ => rfl
  have F_thin_of := fun_mk (st := s_thin_of) l_38 c_38 k_38
  have b_thin_of := F_thin_of.binds (ps := ["course", "f", "d", "common"]) fun _ _ _ _ _ _ us hl => match us, hl with | [_, _, _, _], _ => rfl
  have F__law_heap := fun_mk (st := s__law_heap) l_39 c_39 k_39
  have b__law_heap := F__law_heap.binds (ps := ["script"]) fun _ _ _ _ _ _ us hl => match us, hl with | [_], _ => rfl
  have F__law_draw := fun_mk (st := s__law_draw) l_40 c_40 k_40
  have b__law_draw := F__law_draw.binds (ps := ["heap", "many"]) fun _ _ _ _ _ _ us hl => match us, hl with | [_, _], _ => rfl
  have F__law_pick := fun_mk (st := s__law_pick) l_41 c_41 k_41
  have b__law_pick := F__law_pick.binds (ps := ["heap", "some"]) fun _ _ _ _ _ _ us hl => match us, hl with | [_, _], _ => rfl
  have F__law_mixed := fun_mk (st := s__law_mixed) l_42 c_42 k_42
  have b__law_mixed := F__law_mixed.binds (ps := ["heap", "some"]) fun _ _ _ _ _ _ us hl => match us, hl with | [_, _], _ => rfl
  have F__law_like := fun_mk (st := s__law_like) l_43 c_43 k_43
  have b__law_like := F__law_like.binds (ps := ["told", "due"]) fun _ _ _ _ _ _ us hl => match us, hl with | [_, _], _ => rfl
  have F__law_some := fun_mk (st := s__law_some) l_44 c_44 k_44
  have b__law_some := F__law_some.binds (ps := ["heap", "some", "many"]) fun _ _ _ _ _ _ us hl => match us, hl with | [_, _, _], _ => rfl
  have F__law_lacks := fun_mk (st := s__law_lacks) l_45 c_45 k_45
  have b__law_lacks := F__law_lacks.binds (ps := ["one", "other"]) fun _ _ _ _ _ _ us hl => match us, hl with | [_, _], _ => rfl
  have F__law_gap := fun_mk (st := s__law_gap) l_46 c_46 k_46
  have b__law_gap := F__law_gap.binds (ps := ["course", "d"]) fun _ _ _ _ _ _ us hl => match us, hl with | [_, _], _ => rfl
  have F__law_line := fun_mk (st := s__law_line) l_47 c_47 k_47
  have b__law_line := F__law_line.binds (ps := ["course", "d", "g", "p", "liars", "keepers", "need"]) fun _ _ _ _ _ _ us hl => match us, hl with | [_, _, _, _, _, _, _], _ => rfl
  have F__law_slow := fun_mk (st := s__law_slow) l_48 c_48 k_48
  have b__law_slow := F__law_slow.binds (ps := ["heap", "k", "most", "d", "houses", "words"]) fun _ _ _ _ _ _ us hl => match us, hl with | [_, _, _, _, _, _], _ => rfl
  have F__law_stairs := fun_mk (st := s__law_stairs) l_49 c_49 k_49
  have b__law_stairs := F__law_stairs.binds (ps := ["k", "f", "most", "d", "words"]) fun _ _ _ _ _ _ us hl => match us, hl with | [_, _, _, _, _], _ => rfl
  have F__law_never_open := fun_mk (st := s__law_never_open) l_50 c_50 k_50
  have b__law_never_open := F__law_never_open.binds (ps := ["heap", "parts", "most", "need"]) fun _ _ _ _ _ _ us hl => match us, hl with | [_, _, _, _], _ => rfl
  have F__law_some_open := fun_mk (st := s__law_some_open) l_51 c_51 k_51
  have b__law_some_open := F__law_some_open.binds (ps := ["parts", "most", "need"]) fun _ _ _ _ _ _ us hl => match us, hl with | [_, _, _], _ => rfl
  have F__law_sums_right := fun_mk (st := s__law_sums_right) l_52 c_52 k_52
  have b__law_sums_right := F__law_sums_right.binds (ps := ["parts", "most"]) fun _ _ _ _ _ _ us hl => match us, hl with | [_, _], _ => rfl
  have F__law_borders_right := fun_mk (st := s__law_borders_right) l_53 c_53 k_53
  have b__law_borders_right := F__law_borders_right.binds (ps := ["heap", "f", "most", "m", "d"]) fun _ _ _ _ _ _ us hl => match us, hl with | [_, _, _, _, _], _ => rfl
  have F_law := fun_mk (st := s_law) l_54 c_54 k_54
  have b_law := F_law.binds (ps := ["script"]) fun _ _ _ _ _ _ us hl => match us, hl with | [_], _ => rfl
  let T : Txt K mg := ⟨PySem.W.mg_none_of X G z_abs, PySem.W.mg_none_of X G z_all, PySem.W.mg_none_of X G z_any, PySem.W.mg_none_of X G z_bool, PySem.W.mg_none_of X G z_enumerate, PySem.W.mg_none_of X G z_int, PySem.W.mg_none_of X G z_isinstance, PySem.W.mg_none_of X G z_len, PySem.W.mg_none_of X G z_list, PySem.W.mg_none_of X G z_max, PySem.W.mg_none_of X G z_min, PySem.W.mg_none_of X G z_range, PySem.W.mg_none_of X G z_set, PySem.W.mg_none_of X G z_sorted, PySem.W.mg_none_of X G z_str, PySem.W.mg_none_of X G z_sum, PySem.W.mg_none_of X G z_tuple, t_FAR, PySem.W.mg_of X G g_FAR, t_GONE, PySem.W.mg_of X G g_GONE, t_MOST_COPIES, PySem.W.mg_of X G g_MOST_COPIES, t_MOST_LAG, PySem.W.mg_of X G g_MOST_LAG, t_MOST_PIECES, PySem.W.mg_of X G g_MOST_PIECES, t_NEAR, PySem.W.mg_of X G g_NEAR, C_Numbers, f_11, PySem.W.mg_of X G aC_Numbers, ⟨mk_Numbers, a_11, i_11, kc_Numbers⟩, ⟨pg_Numbers, hd_Numbers, po_Numbers, sa_Numbers⟩, noat (PySem.W.mg_of X G aC_Numbers) n_Numbers_k, noat (PySem.W.mg_of X G aC_Numbers) n_Numbers_f, noat (PySem.W.mg_of X G aC_Numbers) n_Numbers_d, noat (PySem.W.mg_of X G aC_Numbers) n_Numbers_m, noat (PySem.W.mg_of X G aC_Numbers) n_Numbers_w1, noat (PySem.W.mg_of X G aC_Numbers) n_Numbers_w2, noat (PySem.W.mg_of X G aC_Numbers) n_Numbers_g, C_Thin, f_34, PySem.W.mg_of X G aC_Thin, ⟨mk_Thin, a_34, i_34, kc_Thin⟩, ⟨pg_Thin, hd_Thin, po_Thin, sa_Thin⟩, noat (PySem.W.mg_of X G aC_Thin) n_Thin_p, noat (PySem.W.mg_of X G aC_Thin) n_Thin_q, noat (PySem.W.mg_of X G aC_Thin) n_Thin_ins, noat (PySem.W.mg_of X G aC_Thin) n_Thin_others, (kn_cons (P := fun _ C => IsiO K C) (PySem.W.mg_of X G aC_Numbers) ⟨is_f1_Numbers, is_f2, is_f3, is_f4_Numbers⟩ (kn_cons (P := fun _ C => IsiO K C) (PySem.W.mg_of X G aC_Thin) ⟨is_f1_Thin, is_f2, is_f3, is_f4_Thin⟩ kn_nil)), (kn_cons (P := fun _ C => ∀ U : Tn, PySem.W.kitOne K (.ref C) (.type U.nm) = some false) (PySem.W.mg_of X G aC_Numbers) (fun U => match U with | .int => kit_bi (U := .int) is_u_Numbers_int | .bool => kit_bi (U := .bool) is_u_Numbers_bool | .str => kit_bi (U := .str) is_u_Numbers_str | .tuple => kit_bi (U := .tuple) is_u_Numbers_tuple | .list => kit_bi (U := .list) is_u_Numbers_list) (kn_cons (P := fun _ C => ∀ U : Tn, PySem.W.kitOne K (.ref C) (.type U.nm) = some false) (PySem.W.mg_of X G aC_Thin) (fun U => match U with | .int => kit_bi (U := .int) is_u_Thin_int | .bool => kit_bi (U := .bool) is_u_Thin_bool | .str => kit_bi (U := .str) is_u_Thin_str | .tuple => kit_bi (U := .tuple) is_u_Thin_tuple | .list => kit_bi (U := .list) is_u_Thin_list) kn_nil)), (kit_base2 is_f4_Numbers is_z_Numbers), (kn_cons (P := fun c C => PySem.W.kitOne K (.ref C) (.ref C_Numbers) = some (decide (c = "Numbers"))) (PySem.W.mg_of X G aC_Numbers) kit_own (kn_cons (P := fun c C => PySem.W.kitOne K (.ref C) (.ref C_Numbers) = some (decide (c = "Numbers"))) (PySem.W.mg_of X G aC_Thin) (kit_sub is_f4_Numbers is_z_Numbers is_y_Numbers is_p_Thin_Numbers) kn_nil)), (kit_base2 is_f4_Thin is_z_Thin), (kn_cons (P := fun c C => PySem.W.kitOne K (.ref C) (.ref C_Thin) = some (decide (c = "Thin"))) (PySem.W.mg_of X G aC_Numbers) (kit_sub is_f4_Thin is_z_Thin is_y_Thin is_p_Numbers_Thin) (kn_cons (P := fun c C => PySem.W.kitOne K (.ref C) (.ref C_Thin) = some (decide (c = "Thin"))) (PySem.W.mg_of X G aC_Thin) kit_own kn_nil))⟩
  refine ⟨PySem.W.fnOf "law" "law" (defArgs s_law) (defBody s_law) (defScope s_law) .none kV_54 dc_54 pm_54 an_54 cd_54 ct_54, fun s v => .of_eq rfl, fun base _ _ => ?_⟩
  let D_is_integer : Df l.prog w K mg base 1 "is_integer" ["value"] (spV (gxOf K w mg) (W_is_integer)) := ⟨f_0, _, ok_is_integer F_is_integer T , PySem.W.mg_of X G a_0, k_0, b_is_integer⟩
  let D_is_number : Df l.prog w K mg base 2 "is_number" ["value", "most"] (spV (gxOf K w mg) (W_is_number)) := ⟨f_1, _, ok_is_number F_is_number T D_is_integer, PySem.W.mg_of X G a_1, k_1, b_is_number⟩
  let D_comers : Df l.prog w K mg base 1 "comers" ["course", "i"] (spV (gxOf K w mg) (W_comers)) := ⟨f_2, _, ok_comers F_comers T , PySem.W.mg_of X G a_2, k_2, b_comers⟩
  let D_in_both : Df l.prog w K mg base 1 "in_both" ["one", "other"] (spV (gxOf K w mg) (W_in_both)) := ⟨f_3, _, ok_in_both F_in_both T , PySem.W.mg_of X G a_3, k_3, b_in_both⟩
  let D_lot_without : DfR l.prog w K mg base 1 "lot_without" (spV (gxOf K w mg) (starW 1 W_lot_without)) := ⟨f_4, ok_lot_without l_4 c_4 (StX.bind_star1 (B := fun us => bindArgs _ ⟨us, []⟩) (fun _ => rfl) (fun _ _ _ => rfl)) T , PySem.W.mg_of X G a_4, k_4⟩
  let D_line_from : Df l.prog w K mg base 2 "line_from" ["course", "numbers", "p", "liars", "keepers", "need"] (spV (gxOf K w mg) (W_line_from)) := ⟨f_5, _, ok_line_from F_line_from T D_lot_without D_in_both D_comers, PySem.W.mg_of X G a_5, k_5, b_line_from⟩
  let D_blanks : Df l.prog w K mg base 3 "blanks" ["course", "numbers", "p", "liars", "keepers", "need"] (spV (gxOf K w mg) (W_blanks)) := ⟨f_6, _, ok_blanks F_blanks T D_line_from, PySem.W.mg_of X G a_6, k_6, b_blanks⟩
  let D_open_words : Df l.prog w K mg base 3 "open_words" ["course", "numbers", "p", "liars", "keepers", "need"] (spV (gxOf K w mg) (W_open_words)) := ⟨f_7, _, ok_open_words F_open_words T D_line_from, PySem.W.mg_of X G a_7, k_7, b_open_words⟩
  let D_share_of : Df l.prog w K mg base 1 "share_of" ["is_signed"] (spV (gxOf K w mg) (W_share_of)) := ⟨f_8, _, ok_share_of F_share_of T , PySem.W.mg_of X G a_8, k_8, b_share_of⟩
  let D_most_common : Df l.prog w K mg base 2 "most_common" ["f", "parts", "is_signed"] (spV (gxOf K w mg) (W_most_common)) := ⟨f_9, _, ok_most_common F_most_common T D_share_of, PySem.W.mg_of X G a_9, k_9, b_most_common⟩
  let D_least_copies : Df l.prog w K mg base 2 "least_copies" ["f", "spread", "parts", "is_signed"] (spV (gxOf K w mg) (W_least_copies)) := ⟨f_10, _, ok_least_copies F_least_copies T D_share_of, PySem.W.mg_of X G a_10, k_10, b_least_copies⟩
  have G_Numbers_init : FnOk l.prog w K mg base CX0 3 f_11 _ ["self", "k", "f", "d", "m", "w1", "w2", "g"] (spN (gxOf K w mg) "Numbers" W_Numbers_init) := ok_Numbers_init F_Numbers_init T D_is_number
  let D_can_end : Df l.prog w K mg base 1 "can_end" ["numbers"] (spV (gxOf K w mg) (W_can_end)) := ⟨f_12, _, ok_can_end F_can_end T , PySem.W.mg_of X G a_12, k_12, b_can_end⟩
  let D_least_counts : Df l.prog w K mg base 1 "least_counts" ["f", "spread", "m"] (spV (gxOf K w mg) (W_least_counts)) := ⟨f_13, _, ok_least_counts F_least_counts T , PySem.W.mg_of X G a_13, k_13, b_least_counts⟩
  let D_least_numbers : Df l.prog w K mg base 5 "least_numbers" ["f", "spread", "d", "m"] (spV (gxOf K w mg) (W_least_numbers)) := ⟨f_14, _, ok_least_numbers F_least_numbers T D_least_counts G_Numbers_init b_Numbers_init, PySem.W.mg_of X G a_14, k_14, b_least_numbers⟩
  let D_near_slack : Df l.prog w K mg base 1 "near_slack" ["numbers", "spread"] (spV (gxOf K w mg) (W_near_slack)) := ⟨f_15, _, ok_near_slack F_near_slack T , PySem.W.mg_of X G a_15, k_15, b_near_slack⟩
  let D_far_slack : Df l.prog w K mg base 1 "far_slack" ["numbers", "spread"] (spV (gxOf K w mg) (W_far_slack)) := ⟨f_16, _, ok_far_slack F_far_slack T , PySem.W.mg_of X G a_16, k_16, b_far_slack⟩
  let D_mend_slack : Df l.prog w K mg base 2 "mend_slack" ["numbers", "spread"] (spV (gxOf K w mg) (W_mend_slack)) := ⟨f_17, _, ok_mend_slack F_mend_slack T D_far_slack, PySem.W.mg_of X G a_17, k_17, b_mend_slack⟩
  let D_is_single : Df l.prog w K mg base 2 "is_single" ["numbers", "spread"] (spV (gxOf K w mg) (W_is_single)) := ⟨f_18, _, ok_is_single F_is_single T D_near_slack D_far_slack, PySem.W.mg_of X G a_18, k_18, b_is_single⟩
  let D_is_lasting : Df l.prog w K mg base 3 "is_lasting" ["numbers", "spread"] (spV (gxOf K w mg) (W_is_lasting)) := ⟨f_19, _, ok_is_lasting F_is_lasting T D_mend_slack, PySem.W.mg_of X G a_19, k_19, b_is_lasting⟩
  let D_times_over : Df l.prog w K mg base 1 "times_over" ["many", "spread"] (spV (gxOf K w mg) (W_times_over)) := ⟨f_20, _, ok_times_over F_times_over T , PySem.W.mg_of X G a_20, k_20, b_times_over⟩
  let D_keepers_beyond : Df l.prog w K mg base 1 "keepers_beyond" ["numbers"] (spV (gxOf K w mg) (W_keepers_beyond)) := ⟨f_21, _, ok_keepers_beyond F_keepers_beyond T , PySem.W.mg_of X G a_21, k_21, b_keepers_beyond⟩
  let D_words_to_gone : Df l.prog w K mg base 4 "words_to_gone" ["numbers", "spread"] (spV (gxOf K w mg) (W_words_to_gone)) := ⟨f_22, _, ok_words_to_gone F_words_to_gone T D_keepers_beyond D_is_lasting D_times_over, PySem.W.mg_of X G a_22, k_22, b_words_to_gone⟩
  let D_least_triples : Df l.prog w K mg base 1 "least_triples" ["k", "f", "m", "spread", "most"] (spV (gxOf K w mg) (W_least_triples)) := ⟨f_23, _, ok_least_triples F_least_triples T , PySem.W.mg_of X G a_23, k_23, b_least_triples⟩
  let D_kinds_of : Df l.prog w K mg base 4 "kinds_of" ["numbers", "spread"] (spV (gxOf K w mg) (W_kinds_of)) := ⟨f_24, _, ok_kinds_of F_kinds_of T D_is_lasting D_near_slack D_far_slack, PySem.W.mg_of X G a_24, k_24, b_kinds_of⟩
  let D_plain_slack : Df l.prog w K mg base 1 "plain_slack" ["numbers", "spread"] (spV (gxOf K w mg) (W_plain_slack)) := ⟨f_25, _, ok_plain_slack F_plain_slack T , PySem.W.mg_of X G a_25, k_25, b_plain_slack⟩
  let D_plain_lasts : Df l.prog w K mg base 2 "plain_lasts" ["numbers", "spread"] (spV (gxOf K w mg) (W_plain_lasts)) := ⟨f_26, _, ok_plain_lasts F_plain_lasts T D_plain_slack, PySem.W.mg_of X G a_26, k_26, b_plain_lasts⟩
  let D_plain_words : Df l.prog w K mg base 3 "plain_words" ["numbers", "spread"] (spV (gxOf K w mg) (W_plain_words)) := ⟨f_27, _, ok_plain_words F_plain_words T D_plain_lasts, PySem.W.mg_of X G a_27, k_27, b_plain_words⟩
  let D_plain_reads : Df l.prog w K mg base 1 "plain_reads" ["numbers", "spread", "r"] (spV (gxOf K w mg) (W_plain_reads)) := ⟨f_28, _, ok_plain_reads F_plain_reads T , PySem.W.mg_of X G a_28, k_28, b_plain_reads⟩
  let D_plain_copies : Df l.prog w K mg base 1 "plain_copies" ["f", "spread", "m"] (spV (gxOf K w mg) (W_plain_copies)) := ⟨f_29, _, ok_plain_copies F_plain_copies T , PySem.W.mg_of X G a_29, k_29, b_plain_copies⟩
  let D_bound_of : Df l.prog w K mg base 1 "bound_of" ["numbers", "spread"] (spV (gxOf K w mg) (W_bound_of)) := ⟨f_30, _, ok_bound_of F_bound_of T , PySem.W.mg_of X G a_30, k_30, b_bound_of⟩
  let D_sees : Df l.prog w K mg base 2 "sees" ["numbers", "spread", "r"] (spV (gxOf K w mg) (W_sees)) := ⟨f_31, _, ok_sees F_sees T D_bound_of, PySem.W.mg_of X G a_31, k_31, b_sees⟩
  let D_least_asked : Df l.prog w K mg base 2 "least_asked" ["numbers", "spread"] (spV (gxOf K w mg) (W_least_asked)) := ⟨f_32, _, ok_least_asked F_least_asked T D_bound_of, PySem.W.mg_of X G a_32, k_32, b_least_asked⟩
  let D_sees_with_ends : Df l.prog w K mg base 3 "sees_with_ends" ["numbers", "spread"] (spV (gxOf K w mg) (W_sees_with_ends)) := ⟨f_33, _, ok_sees_with_ends F_sees_with_ends T D_least_asked, PySem.W.mg_of X G a_33, k_33, b_sees_with_ends⟩
  have G_Thin_init : FnOk l.prog w K mg base CX0 1 f_34 _ ["self", "p", "q", "ins", "others"] (spN (gxOf K w mg) "Thin" W_Thin_init) := ok_Thin_init F_Thin_init T 
  let D_only_first : Df l.prog w K mg base 1 "only_first" ["one", "other"] (spV (gxOf K w mg) (W_only_first)) := ⟨f_35, _, ok_only_first F_only_first T , PySem.W.mg_of X G a_35, k_35, b_only_first⟩
  let D_far_lots : Df l.prog w K mg base 2 "far_lots" ["one", "other", "many"] (spV (gxOf K w mg) (W_far_lots)) := ⟨f_36, _, ok_far_lots F_far_lots T D_in_both D_only_first, PySem.W.mg_of X G a_36, k_36, b_far_lots⟩
  let D_pairs_within : Df l.prog w K mg base 1 "pairs_within" ["course", "d"] (spV (gxOf K w mg) (W_pairs_within)) := ⟨f_37, _, ok_pairs_within F_pairs_within T , PySem.W.mg_of X G a_37, k_37, b_pairs_within⟩
  let D_thin_of : Df l.prog w K mg base 3 "thin_of" ["course", "f", "d", "common"] (spV (gxOf K w mg) (W_thin_of)) := ⟨f_38, _, ok_thin_of F_thin_of T D_pairs_within D_far_lots D_in_both G_Thin_init b_Thin_init, PySem.W.mg_of X G a_38, k_38, b_thin_of⟩
  let D__law_heap : Df l.prog w K mg base 1 "_law_heap" ["script"] (spV (gxOf K w mg) (W__law_heap)) := ⟨f_39, _, (ok_heap F__law_heap T).imp fun _ _ _ _ h => heap_imp h, PySem.W.mg_of X G a_39, k_39, b__law_heap⟩
  let D__law_draw : Df l.prog w K mg base 1 "_law_draw" ["heap", "many"] (spV (gxOf K w mg) (W__law_draw)) := ⟨f_40, _, (ok_draw F__law_draw T).imp fun _ _ _ _ h => draw_imp h, PySem.W.mg_of X G a_40, k_40, b__law_draw⟩
  let D__law_pick : Df l.prog w K mg base 2 "_law_pick" ["heap", "some"] (spV (gxOf K w mg) (W__law_pick)) := ⟨f_41, _, ok__law_pick F__law_pick T D__law_draw, PySem.W.mg_of X G a_41, k_41, b__law_pick⟩
  let D__law_mixed : Df l.prog w K mg base 2 "_law_mixed" ["heap", "some"] (spV (gxOf K w mg) (W__law_mixed)) := ⟨f_42, _, ok__law_mixed F__law_mixed T D__law_draw, PySem.W.mg_of X G a_42, k_42, b__law_mixed⟩
  let D__law_like_0 : Df l.prog w K mg base 0 "_law_like" ["told", "due"] (spV (gxOf K w mg) (W__law_like_at 0)) := ⟨f_43, _, nofn.imp fun _ _ _ _ h => by obtain ⟨_, _, _, _, _, _, h, _⟩ := h; exact h, PySem.W.mg_of X G a_43, k_43, b__law_like⟩
  let D__law_like_1 : Df l.prog w K mg base 1 "_law_like" ["told", "due"] (spV (gxOf K w mg) (W__law_like_at 1)) := ⟨f_43, _, ok__law_like_of F__law_like T  (by decide) D__law_like_0, PySem.W.mg_of X G a_43, k_43, b__law_like⟩
  let D__law_like_2 : Df l.prog w K mg base 2 "_law_like" ["told", "due"] (spV (gxOf K w mg) (W__law_like_at 2)) := ⟨f_43, _, ok__law_like_of F__law_like T  (by decide) D__law_like_1, PySem.W.mg_of X G a_43, k_43, b__law_like⟩
  let D__law_like_3 : Df l.prog w K mg base 3 "_law_like" ["told", "due"] (spV (gxOf K w mg) (W__law_like_at 3)) := ⟨f_43, _, ok__law_like_of F__law_like T  (by decide) D__law_like_2, PySem.W.mg_of X G a_43, k_43, b__law_like⟩
  let D__law_like_4 : Df l.prog w K mg base 4 "_law_like" ["told", "due"] (spV (gxOf K w mg) (W__law_like_at 4)) := ⟨f_43, _, ok__law_like_of F__law_like T  (by decide) D__law_like_3, PySem.W.mg_of X G a_43, k_43, b__law_like⟩
  let D__law_like := D__law_like_4
  let D__law_some : Df l.prog w K mg base 3 "_law_some" ["heap", "some", "many"] (spV (gxOf K w mg) (W__law_some)) := ⟨f_44, _, ok__law_some F__law_some T D__law_mixed, PySem.W.mg_of X G a_44, k_44, b__law_some⟩
  let D__law_lacks : Df l.prog w K mg base 1 "_law_lacks" ["one", "other"] (spV (gxOf K w mg) (W__law_lacks)) := ⟨f_45, _, ok__law_lacks F__law_lacks T , PySem.W.mg_of X G a_45, k_45, b__law_lacks⟩
  let D__law_gap : Df l.prog w K mg base 2 "_law_gap" ["course", "d"] (spV (gxOf K w mg) (W__law_gap)) := ⟨f_46, _, ok__law_gap F__law_gap T D__law_lacks, PySem.W.mg_of X G a_46, k_46, b__law_gap⟩
  let D__law_line : Df l.prog w K mg base 1 "_law_line" ["course", "d", "g", "p", "liars", "keepers", "need"] (spV (gxOf K w mg) (W__law_line)) := ⟨f_47, _, ok__law_line F__law_line T , PySem.W.mg_of X G a_47, k_47, b__law_line⟩
  let D__law_slow : Df l.prog w K mg base 3 "_law_slow" ["heap", "k", "most", "d", "houses", "words"] (spV (gxOf K w mg) (W__law_slow)) := ⟨f_48, _, ok__law_slow F__law_slow T D__law_draw D__law_mixed, PySem.W.mg_of X G a_48, k_48, b__law_slow⟩
  let D__law_stairs : Df l.prog w K mg base 1 "_law_stairs" ["k", "f", "most", "d", "words"] (spV (gxOf K w mg) (W__law_stairs)) := ⟨f_49, _, ok__law_stairs F__law_stairs T , PySem.W.mg_of X G a_49, k_49, b__law_stairs⟩
  let D__law_never_open : Df l.prog w K mg base 5 "_law_never_open" ["heap", "parts", "most", "need"] (spV (gxOf K w mg) (W__law_never_open)) := ⟨f_50, _, ok__law_never_open F__law_never_open T D__law_slow D__law_gap D__law_draw D__law_mixed D__law_line D__law_some D__law_like D_blanks D_open_words G_Numbers_init b_Numbers_init, PySem.W.mg_of X G a_50, k_50, b__law_never_open⟩
  let D__law_some_open : Df l.prog w K mg base 5 "_law_some_open" ["parts", "most", "need"] (spV (gxOf K w mg) (W__law_some_open)) := ⟨f_51, _, ok__law_some_open F__law_some_open T D__law_stairs D__law_gap D_open_words (kb_open_words_5_4_2_0_1_3 F_open_words) G_Numbers_init b_Numbers_init, PySem.W.mg_of X G a_51, k_51, b__law_some_open⟩
  let D__law_sums_right : Df l.prog w K mg base 5 "_law_sums_right" ["parts", "most"] (spV (gxOf K w mg) (W__law_sums_right)) := ⟨f_52, _, ok__law_sums_right F__law_sums_right T D__law_like D_kinds_of D_near_slack D_far_slack D_mend_slack D_plain_slack D_is_single D_is_lasting D_plain_lasts D_plain_words D_words_to_gone D_sees D_plain_reads G_Numbers_init b_Numbers_init, PySem.W.mg_of X G a_52, k_52, b__law_sums_right⟩
  let D__law_borders_right : Df l.prog w K mg base 6 "_law_borders_right" ["heap", "f", "most", "m", "d"] (spV (gxOf K w mg) (W__law_borders_right)) := ⟨f_53, _, ok__law_borders_right F__law_borders_right T D_least_numbers D__law_like D_least_counts D_is_single D_is_lasting D_can_end D_sees_with_ends D_least_triples D_least_copies D_plain_copies D_least_asked D_thin_of D_most_common, PySem.W.mg_of X G a_53, k_53, b__law_borders_right⟩
  exact (ok_law F_law T D__law_heap D__law_sums_right D__law_borders_right D__law_draw D__law_pick D__law_never_open D__law_some_open).imp fun vs H Q E h => law_imp law_true h
theorem walk {l : PySem.W.OpenLaw} {q : Program} {loose : List Str} {XP : (Str → Option Value) → Heap → Prop} {YP : World → Heap → Prop} {d : DefRec} {K : Params → PySem.W.Frag} (hn : l.most = some 63) (hdf : d.params.defaults = [])
    (hY : ∀ (w : World) (h : Heap), YP w h → (K w.params).In h)
    (F : ∀ (w : World) (mg : Str → Option Value) (fa : Addr) (h : Heap), (K w.params).In h → h.Ns mainGlobals mg → mg d.name = some (.ref fa) →
      ∃ fd : FuncData, (∀ (s : Shared) (u : Value), BindsTo s fd ⟨[u], []⟩ [("script", u)]) ∧ ∀ base : Heap, (K w.params).In base → base.Ns mainGlobals mg → FnOk l.prog w (K w.params) mg base CX0 7 fa fd ["script"] (Vl.sp_law (K w.params))) :
    PySem.W.WalkO q loose XP YP l.row.toRowW d [] (fun f vs => PySem.call f vs) :=
  L2.walk_of (n := 63) (k := 7) (x := "script") (CX := fun _ => CX0) (sp := fun w => Vl.sp_law (K w.params)) hn (by decide) hdf ⟨rfl, by decide, by decide⟩ hY F (fun _ _ a ns hl _ hS => ⟨a, ns, rfl, hS, hl, fun _ => rfl⟩) fun _ _ _ _ _ z => z
end K78

open PySem PySem.W PyProof.Rows in
set_option maxRecDepth 100000 in
set_option maxHeartbeats 0 in
theorem PySem.Challenge.cw_piecesapart_k78_whole_one_need_three_bor_holds : PySem.Challenge.rw_piecesapart_k78_whole_one_need_three_bor.Holds := by
  w_on; o_law; k_head; (case hw => w_witness2)
  k_fill
  refine K78.walk (l := PySem.Challenge.rw_piecesapart_k78_whole_one_need_three_bor) rfl rfl (fun w h Y => PySem.W.kIn_of Y) ?F
  case F =>
    intro w mg fa h KX G hmg
    refine' K78.all_mk KX G hmg ?z_abs ?z_all ?z_any ?z_bool ?z_enumerate ?z_int ?z_isinstance ?z_len ?z_list ?z_max ?z_min ?z_range ?z_set ?z_sorted ?z_str ?z_sum ?z_tuple ?g_FAR ?g_GONE ?g_MOST_COPIES ?g_MOST_LAG ?g_MOST_PIECES ?g_NEAR ?aC_Numbers ?pg_Numbers ?hd_Numbers ?po_Numbers ?sa_Numbers ?mk_Numbers ?kc_Numbers ?n_Numbers_k ?n_Numbers_f ?n_Numbers_d ?n_Numbers_m ?n_Numbers_w1 ?n_Numbers_w2 ?n_Numbers_g ?aC_Thin ?pg_Thin ?hd_Thin ?po_Thin ?sa_Thin ?mk_Thin ?kc_Thin ?n_Thin_p ?n_Thin_q ?n_Thin_ins ?n_Thin_others ?is_f2 ?is_f3 ?is_f1_Numbers ?is_f4_Numbers ?is_u_Numbers_int ?is_u_Numbers_bool ?is_u_Numbers_str ?is_u_Numbers_tuple ?is_u_Numbers_list ?is_f1_Thin ?is_f4_Thin ?is_u_Thin_int ?is_u_Thin_bool ?is_u_Thin_str ?is_u_Thin_tuple ?is_u_Thin_list ?is_z_Numbers ?is_y_Numbers ?is_p_Thin_Numbers ?is_z_Thin ?is_y_Thin ?is_p_Numbers_Thin ?a_0 ?l_0 ?c_0 ?k_0 ?a_1 ?l_1 ?c_1 ?k_1 ?t_1 ?a_2 ?l_2 ?c_2 ?k_2 ?a_3 ?l_3 ?c_3 ?k_3 ?a_4 ?l_4 ?c_4 ?k_4 ?a_5 ?l_5 ?c_5 ?k_5 ?a_6 ?l_6 ?c_6 ?k_6 ?a_7 ?l_7 ?c_7 ?k_7 ?a_8 ?l_8 ?c_8 ?k_8 ?a_9 ?l_9 ?c_9 ?k_9 ?a_10 ?l_10 ?c_10 ?k_10 ?a_11 ?i_11 ?l_11 ?c_11 ?k_11 ?a_12 ?l_12 ?c_12 ?k_12 ?a_13 ?l_13 ?c_13 ?k_13 ?a_14 ?l_14 ?c_14 ?k_14 ?a_15 ?l_15 ?c_15 ?k_15 ?a_16 ?l_16 ?c_16 ?k_16 ?a_17 ?l_17 ?c_17 ?k_17 ?a_18 ?l_18 ?c_18 ?k_18 ?a_19 ?l_19 ?c_19 ?k_19 ?a_20 ?l_20 ?c_20 ?k_20 ?a_21 ?l_21 ?c_21 ?k_21 ?a_22 ?l_22 ?c_22 ?k_22 ?a_23 ?l_23 ?c_23 ?k_23 ?a_24 ?l_24 ?c_24 ?k_24 ?a_25 ?l_25 ?c_25 ?k_25 ?a_26 ?l_26 ?c_26 ?k_26 ?a_27 ?l_27 ?c_27 ?k_27 ?a_28 ?l_28 ?c_28 ?k_28 ?a_29 ?l_29 ?c_29 ?k_29 ?a_30 ?l_30 ?c_30 ?k_30 ?a_31 ?l_31 ?c_31 ?k_31 ?a_32 ?l_32 ?c_32 ?k_32 ?a_33 ?l_33 ?c_33 ?k_33 ?a_34 ?i_34 ?l_34 ?c_34 ?k_34 ?a_35 ?l_35 ?c_35 ?k_35 ?a_36 ?l_36 ?c_36 ?k_36 ?a_37 ?l_37 ?c_37 ?k_37 ?a_38 ?l_38 ?c_38 ?k_38 ?a_39 ?l_39 ?c_39 ?k_39 ?a_40 ?l_40 ?c_40 ?k_40 ?a_41 ?l_41 ?c_41 ?k_41 ?a_42 ?l_42 ?c_42 ?k_42 ?a_43 ?l_43 ?c_43 ?k_43 ?a_44 ?l_44 ?c_44 ?k_44 ?a_45 ?l_45 ?c_45 ?k_45 ?a_46 ?l_46 ?c_46 ?k_46 ?a_47 ?l_47 ?c_47 ?k_47 ?a_48 ?l_48 ?c_48 ?k_48 ?a_49 ?l_49 ?c_49 ?k_49 ?a_50 ?l_50 ?c_50 ?k_50 ?a_51 ?l_51 ?c_51 ?k_51 ?a_52 ?l_52 ?c_52 ?k_52 ?a_53 ?l_53 ?c_53 ?k_53 ?a_54 ?l_54 ?c_54 ?k_54
    (case z_abs => k_is)
    (case z_all => k_is)
    (case z_any => k_is)
    (case z_bool => k_is)
    (case z_enumerate => k_is)
    (case z_int => k_is)
    (case z_isinstance => k_is)
    (case z_len => k_is)
    (case z_list => k_is)
    (case z_max => k_is)
    (case z_min => k_is)
    (case z_range => k_is)
    (case z_set => k_is)
    (case z_sorted => k_is)
    (case z_str => k_is)
    (case z_sum => k_is)
    (case z_tuple => k_is)
    (case g_FAR => k_is)
    (case g_GONE => k_is)
    (case g_MOST_COPIES => k_is)
    (case g_MOST_LAG => k_is)
    (case g_MOST_PIECES => k_is)
    (case g_NEAR => k_is)
    (case aC_Numbers => k_is)
    (case pg_Numbers => k_is)
    (case hd_Numbers => k_is)
    (case po_Numbers => k_is)
    (case sa_Numbers => k_is)
    (case mk_Numbers => k_is)
    (case kc_Numbers => k_is)
    (case n_Numbers_k => k_is)
    (case n_Numbers_f => k_is)
    (case n_Numbers_d => k_is)
    (case n_Numbers_m => k_is)
    (case n_Numbers_w1 => k_is)
    (case n_Numbers_w2 => k_is)
    (case n_Numbers_g => k_is)
    (case aC_Thin => k_is)
    (case pg_Thin => k_is)
    (case hd_Thin => k_is)
    (case po_Thin => k_is)
    (case sa_Thin => k_is)
    (case mk_Thin => k_is)
    (case kc_Thin => k_is)
    (case n_Thin_p => k_is)
    (case n_Thin_q => k_is)
    (case n_Thin_ins => k_is)
    (case n_Thin_others => k_is)
    (case is_f2 => k_is)
    (case is_f3 => k_is)
    (case is_f1_Numbers => k_is)
    (case is_f4_Numbers => k_is)
    (case is_u_Numbers_int => k_is)
    (case is_u_Numbers_bool => k_is)
    (case is_u_Numbers_str => k_is)
    (case is_u_Numbers_tuple => k_is)
    (case is_u_Numbers_list => k_is)
    (case is_f1_Thin => k_is)
    (case is_f4_Thin => k_is)
    (case is_u_Thin_int => k_is)
    (case is_u_Thin_bool => k_is)
    (case is_u_Thin_str => k_is)
    (case is_u_Thin_tuple => k_is)
    (case is_u_Thin_list => k_is)
    (case is_z_Numbers => k_is)
    (case is_y_Numbers => k_is)
    (case is_p_Thin_Numbers => k_is)
    (case is_z_Thin => k_is)
    (case is_y_Thin => k_is)
    (case is_p_Numbers_Thin => k_is)
    (case a_0 => k_is)
    (case l_0 => k_is)
    (case c_0 => k_is)
    (case k_0 => k_is)
    (case a_1 => k_is)
    (case l_1 => k_is)
    (case c_1 => k_is)
    (case k_1 => k_is)
    (case t_1 => k_is)
    (case a_2 => k_is)
    (case l_2 => k_is)
    (case c_2 => k_is)
    (case k_2 => k_is)
    (case a_3 => k_is)
    (case l_3 => k_is)
    (case c_3 => k_is)
    (case k_3 => k_is)
    (case a_4 => k_is)
    (case l_4 => k_is)
    (case c_4 => k_is)
    (case k_4 => k_is)
    (case a_5 => k_is)
    (case l_5 => k_is)
    (case c_5 => k_is)
    (case k_5 => k_is)
    (case a_6 => k_is)
    (case l_6 => k_is)
    (case c_6 => k_is)
    (case k_6 => k_is)
    (case a_7 => k_is)
    (case l_7 => k_is)
    (case c_7 => k_is)
    (case k_7 => k_is)
    (case a_8 => k_is)
    (case l_8 => k_is)
    (case c_8 => k_is)
    (case k_8 => k_is)
    (case a_9 => k_is)
    (case l_9 => k_is)
    (case c_9 => k_is)
    (case k_9 => k_is)
    (case a_10 => k_is)
    (case l_10 => k_is)
    (case c_10 => k_is)
    (case k_10 => k_is)
    (case a_11 => k_is)
    (case i_11 => k_is)
    (case l_11 => k_is)
    (case c_11 => k_is)
    (case k_11 => k_is)
    (case a_12 => k_is)
    (case l_12 => k_is)
    (case c_12 => k_is)
    (case k_12 => k_is)
    (case a_13 => k_is)
    (case l_13 => k_is)
    (case c_13 => k_is)
    (case k_13 => k_is)
    (case a_14 => k_is)
    (case l_14 => k_is)
    (case c_14 => k_is)
    (case k_14 => k_is)
    (case a_15 => k_is)
    (case l_15 => k_is)
    (case c_15 => k_is)
    (case k_15 => k_is)
    (case a_16 => k_is)
    (case l_16 => k_is)
    (case c_16 => k_is)
    (case k_16 => k_is)
    (case a_17 => k_is)
    (case l_17 => k_is)
    (case c_17 => k_is)
    (case k_17 => k_is)
    (case a_18 => k_is)
    (case l_18 => k_is)
    (case c_18 => k_is)
    (case k_18 => k_is)
    (case a_19 => k_is)
    (case l_19 => k_is)
    (case c_19 => k_is)
    (case k_19 => k_is)
    (case a_20 => k_is)
    (case l_20 => k_is)
    (case c_20 => k_is)
    (case k_20 => k_is)
    (case a_21 => k_is)
    (case l_21 => k_is)
    (case c_21 => k_is)
    (case k_21 => k_is)
    (case a_22 => k_is)
    (case l_22 => k_is)
    (case c_22 => k_is)
    (case k_22 => k_is)
    (case a_23 => k_is)
    (case l_23 => k_is)
    (case c_23 => k_is)
    (case k_23 => k_is)
    (case a_24 => k_is)
    (case l_24 => k_is)
    (case c_24 => k_is)
    (case k_24 => k_is)
    (case a_25 => k_is)
    (case l_25 => k_is)
    (case c_25 => k_is)
    (case k_25 => k_is)
    (case a_26 => k_is)
    (case l_26 => k_is)
    (case c_26 => k_is)
    (case k_26 => k_is)
    (case a_27 => k_is)
    (case l_27 => k_is)
    (case c_27 => k_is)
    (case k_27 => k_is)
    (case a_28 => k_is)
    (case l_28 => k_is)
    (case c_28 => k_is)
    (case k_28 => k_is)
    (case a_29 => k_is)
    (case l_29 => k_is)
    (case c_29 => k_is)
    (case k_29 => k_is)
    (case a_30 => k_is)
    (case l_30 => k_is)
    (case c_30 => k_is)
    (case k_30 => k_is)
    (case a_31 => k_is)
    (case l_31 => k_is)
    (case c_31 => k_is)
    (case k_31 => k_is)
    (case a_32 => k_is)
    (case l_32 => k_is)
    (case c_32 => k_is)
    (case k_32 => k_is)
    (case a_33 => k_is)
    (case l_33 => k_is)
    (case c_33 => k_is)
    (case k_33 => k_is)
    (case a_34 => k_is)
    (case i_34 => k_is)
    (case l_34 => k_is)
    (case c_34 => k_is)
    (case k_34 => k_is)
    (case a_35 => k_is)
    (case l_35 => k_is)
    (case c_35 => k_is)
    (case k_35 => k_is)
    (case a_36 => k_is)
    (case l_36 => k_is)
    (case c_36 => k_is)
    (case k_36 => k_is)
    (case a_37 => k_is)
    (case l_37 => k_is)
    (case c_37 => k_is)
    (case k_37 => k_is)
    (case a_38 => k_is)
    (case l_38 => k_is)
    (case c_38 => k_is)
    (case k_38 => k_is)
    (case a_39 => k_is)
    (case l_39 => k_is)
    (case c_39 => k_is)
    (case k_39 => k_is)
    (case a_40 => k_is)
    (case l_40 => k_is)
    (case c_40 => k_is)
    (case k_40 => k_is)
    (case a_41 => k_is)
    (case l_41 => k_is)
    (case c_41 => k_is)
    (case k_41 => k_is)
    (case a_42 => k_is)
    (case l_42 => k_is)
    (case c_42 => k_is)
    (case k_42 => k_is)
    (case a_43 => k_is)
    (case l_43 => k_is)
    (case c_43 => k_is)
    (case k_43 => k_is)
    (case a_44 => k_is)
    (case l_44 => k_is)
    (case c_44 => k_is)
    (case k_44 => k_is)
    (case a_45 => k_is)
    (case l_45 => k_is)
    (case c_45 => k_is)
    (case k_45 => k_is)
    (case a_46 => k_is)
    (case l_46 => k_is)
    (case c_46 => k_is)
    (case k_46 => k_is)
    (case a_47 => k_is)
    (case l_47 => k_is)
    (case c_47 => k_is)
    (case k_47 => k_is)
    (case a_48 => k_is)
    (case l_48 => k_is)
    (case c_48 => k_is)
    (case k_48 => k_is)
    (case a_49 => k_is)
    (case l_49 => k_is)
    (case c_49 => k_is)
    (case k_49 => k_is)
    (case a_50 => k_is)
    (case l_50 => k_is)
    (case c_50 => k_is)
    (case k_50 => k_is)
    (case a_51 => k_is)
    (case l_51 => k_is)
    (case c_51 => k_is)
    (case k_51 => k_is)
    (case a_52 => k_is)
    (case l_52 => k_is)
    (case c_52 => k_is)
    (case k_52 => k_is)
    (case a_53 => k_is)
    (case l_53 => k_is)
    (case c_53 => k_is)
    (case k_53 => k_is)
    (case a_54 => k_is)
    (case l_54 => k_is)
    (case c_54 => k_is)
    (case k_54 => k_is)
