import PyProof.Rows.All
import Wide.All
import OpenK.AllK
import Wide.FinOn
import HandS.ForMost
import HandS.Zip
import HandS.Style
import HandS.IsInst
import HandS.Deep
import HandS.Defaults
import HandS.Flow
import HandS.Walk
import HandS.Flt
import KE.DataMinMax
import KE.GoesEnum
import HandS.Strs
import HandS.SortInts
import HandS.SetFor
import HandS.Star
import HandS.TupAny
import HandS.TupMul
import HandS.Wide
import PySem.Challenge.RW_piecesapart_k27_whole_lines_of_blanks
set_option Elab.async false
set_option linter.all false
set_option maxRecDepth 100000
set_option maxHeartbeats 8000000
namespace Hl
open PySem PySem.Spec PyProof.Rows L2

/-! ### heaps that grow -/
theorem seqT {K : PySem.W.Frag} {H H' : Hp} {a : Addr} {xs : List V} (e : Same H H') (h : SqT K H a xs) : SqT K H' a xs := by
  rcases h with (h | ⟨o, h⟩) | h
  · exact .inl (.inl (e _ _ h))
  · exact .inl (.inr ⟨o, e _ _ h⟩)
  · exact .inr h
theorem same_new {H : Hp} {p : Addr} {o : HO} (h : H p = none) : Same H (upd H p o) := fun b x e => by
  rw [upd_ne (ne_of_none e h)]
  exact e
/-- what H does not know may change -/
theorem same_mut {H H' : Hp} {p : Addr} {o : HO} (e : Same H H') (h : H p = none) : Same H (upd H' p o) := fun b x hb => by
  rw [upd_ne (ne_of_none hb h)]
  exact e b x hb
theorem room65 {k : Nat} {A : Around} (r : Room k A) : A.units + 65 < cLine := by
  have := r.un
  omega
mutual
theorem dp_mono {K : PySem.W.Frag} {H H' : Hp} (e : Same H H') : ∀ {v : V} {d : PyData}, Dp K H v d → Dp K H' v d
  | _, _, .non => .non
  | _, _, .bl b => .bl b
  | _, _, .int i => .int i
  | _, _, .str x => .str x
  | _, _, .lst h a => .lst (e.seq h) (dps_mono e a)
  | _, _, .tup h a => .tup (seqT e h) (dps_mono e a)
theorem dps_mono {K : PySem.W.Frag} {H H' : Hp} (e : Same H H') : ∀ {vs : List V} {ds : List PyData}, DpAll K H vs ds → DpAll K H' vs ds
  | _, _, .nil => .nil
  | _, _, .cons h t => .cons (dp_mono e h) (dps_mono e t)
end
theorem dps_len {K : PySem.W.Frag} {H : Hp} : ∀ {vs : List V} {ds : List PyData}, DpAll K H vs ds → vs.length = ds.length
  | _, _, .nil => rfl
  | _, _, .cons _ t => by rw [List.length_cons, List.length_cons, dps_len t]
theorem dps_get {K : PySem.W.Frag} {H : Hp} : ∀ {vs : List V} {ds : List PyData} {i : Nat} {v : V}, DpAll K H vs ds → vs[i]? = some v → ∃ d, ds[i]? = some d ∧ Dp K H v d
  | _, _, _, _, .nil, h => by simp at h
  | _, _, 0, _, .cons h _, e => by simp at e; subst e; exact ⟨_, rfl, h⟩
  | _, _, i + 1, v, .cons _ t, e => by
    obtain ⟨d, h1, h2⟩ := dps_get (i := i) (v := v) t (by simpa using e)
    exact ⟨d, by simpa using h1, h2⟩
theorem dps_app {K : PySem.W.Frag} {H : Hp} : ∀ {vs ws : List V} {ds es : List PyData}, DpAll K H vs ds → DpAll K H ws es → DpAll K H (vs ++ ws) (ds ++ es)
  | _, _, _, _, .nil, h => h
  | _, _, _, _, .cons h t, u => .cons h (dps_app t u)
theorem dps_ints {K : PySem.W.Frag} {H : Hp} : ∀ ns : List Int, DpAll K H (ns.map V.int) (ns.map PyData.int)
  | [] => .nil
  | n :: r => .cons (.int n) (dps_ints r)
/-- an int's data -/
theorem dp_int {K : PySem.W.Frag} {H : Hp} {v : V} {i : Int} (h : Dp K H v (.int i)) : v = .int i := by cases h; rfl

/-! ### a def of the text that stands behind the top, with its promise -/
structure Df (P : Program) (w : World) (K : PySem.W.Frag) (mg : Str → Option Value) (base : Heap) (k : Nat) (nm : Str) (ps : List Str) (sp : Sp) where
  f : Addr
  fd : FuncData
  ok : FnOk P w K mg base CX0 k f fd ps sp
  m : mg nm = some (.ref f)
  kp : PySem.W.keepIn K (.ref f) = true
  b : Binds K fd ps []

theorem nofn {P : Program} {w : World} {K : PySem.W.Frag} {mg : Str → Option Value} {base : Heap} {CX : CXT} {k : Nat} {f : Addr} {fd : FuncData} {ps : List Str} : FnOk P w K mg base CX k f fd ps (fun _ _ _ _ => False) := ⟨fun _ _ _ _ h => h.elim, fun _ _ _ _ _ _ _ _ _ _ _ _ _ h => h.elim⟩
theorem fnok_or {P : Program} {w : World} {K : PySem.W.Frag} {mg : Str → Option Value} {base : Heap} {CX : CXT} {k : Nat} {f : Addr} {fd : FuncData} {ps : List Str} {sp sp' : Sp} (F : FnOk P w K mg base CX k f fd ps sp) (G : FnOk P w K mg base CX k f fd ps sp') :
    FnOk P w K mg base CX k f fd ps (fun vs H Q E => sp vs H Q E ∨ sp' vs H Q E) where
  len := fun vs H Q E h => h.elim (F.len vs H Q E) (G.len vs H Q E)
  run := fun A outer s H args us vs Q E hr he hb hv h => h.elim (F.run A outer s H args us vs Q E hr he hb hv) (G.run A outer s H args us vs Q E hr he hb hv)
section
variable {X : Cx} {CX : CXT} {k : Nat} {f C : Addr} {fd : FuncData} {ps ks : List Str} {sp : Sp} {E : XK} {x m : Str} {p pos apos kpos : Pos} {e o : Expr} {es : List Expr} {kws : List Keyword} {te ta : TE} {t tk : TA} {nm : Option Str}
variable {g : List Value → List Value → List Value} {gV : List V → List V → List V}
/-- f(k = v, ..) -/
theorem pe_callK0 (F : FnOk X.prog X.w X.K X.mg X.base CX k f fd ps sp) (hr : Room k X.A) (hg : Gl X x) (hm : X.mg x = some (.ref f)) (hk : PySem.W.keepIn X.K (.ref f) = true) (hb : KBinds X.K fd ps ks g gV) (hx : Passes CX X E)
    (hkw : PK X kws tk) (hall : (backToKw pos (keywordEach kws X.env)).all (·.1.isSome) = true := by rfl) (hks : (backToKw pos (keywordEach kws X.env)).filterMap (·.1) = ks := by rfl)
    (hdb : (x == ("__debug__" : Str)) = false := by decide)
    (hpl : ((backTo pos (starEach [] X.env)).any (·.1) || (backToKw pos (keywordEach kws X.env)).any (·.1.isNone)) = false := by rfl) :
    PE X (.Call (.Name x p) [] kws pos) (tCallK sp gV E tNil tk) := by
  refine ⟨fun pins s σ H Q I h => ?_⟩
  refine wpAny_Call_Name_kw (ld_glob I hg hm ?_ hdb)
  refine PySem.W.callWith_KW0 (h₀ := X.base) I.ok.mod.kin hk hall ?_ hpl
  refine thn (hkw.run pos pins s σ H _ I h) fun ws s2 ⟨zs, H2, I2, rz, q2⟩ => ⟨I2.kIn, ?_⟩
  rw [hks]
  exact run_fnk (us := []) (vs := []) F hr hb hx I2 .nil rz q2
end

/-! ### enumerate(tuple) -/
theorem meets_enumerate_newT {v : Value} {o : Obj} {H : Heap → Prop} (B : Begins v o H) :
    Meets (Builtin.«enumerate.__new__» ⟨[.type "enumerate", v], []⟩) (fun _ R s => H s.heap ∧
      R (.ok (.ret (.ref (s.heap.push o).objs.size))) { s with heap := (s.heap.push o).push { cls := .type "enumerate", data := .fields #[.none, .bool false, .ref s.heap.objs.size, rawInt 0, .none, .none] } }) :=
  .of_wp fun prog w A R s h => by
    obtain ⟨hp, g, d, tk, os⟩ := s; obtain ⟨h1, h⟩ := h
    have hsub := sub_enumerate
    have q1 : ∀ {A' : Around} {E : Value → Shared → Prop} {Q : Value → Shared → Prop}, Q (.ref hp.objs.size) ⟨hp.push o, g, d, tk, os⟩ → wpAny (model prog w) A' (pyIter v) Q E ⟨hp, g, d, tk, os⟩ :=
      fun q => B.iter prog w _ _ ⟨hp, g, d, tk, os⟩ _ h1 q
    wp_walk using q1
    refine wpAny_stack_any fun st => wpAny_pure ?_
    split
    · rename_i c _ _ _ _ _
      cases (c == Value.type "enumerate")
      · wp_walk using q1
        exact ⟨_, rfl, h⟩
      · wp_walk using q1
        exact ⟨_, rfl, h⟩
    · wp_walk using q1
      exact ⟨_, rfl, h⟩
theorem call_enumerate_tuple {prog : Program} {w : World} {A : Around} {E : Value → Shared → Prop} {s : Shared} {l : Addr} {items : Array Value} {Q : Value → Shared → Prop} (hL : s.heap.IsTuple l items)
    (h : ∀ h', IsEnum h' (s.heap.objs.size + 1) s.heap.objs.size 0 .none → h'.IsTupleIter s.heap.objs.size l 0 → h'.objs.size = s.heap.objs.size + 2 →
      (∀ b o, s.heap.get? b = some o → h'.get? b = some o) → Q (.ref (s.heap.objs.size + 1)) { s with heap := h' }) :
    wpAny (model prog w) A (call (.type "enumerate") [.ref l]) Q E s := by
  refine callType_new F.called_enumerate (by decide) (F.typeCall_enumerate_1 _) (F.newCall_enumerate_1 _) (fun obj => F.args_object_init_2 obj _) F.entry_enumerate_new
    (meets_enumerate_newT (begins_tuple l items)) ⟨hL, ?_⟩
  have hz : (s.heap.push { cls := .type "tuple_iterator", data := .fields #[.ref l, .int 0 0] }).objs.size = s.heap.objs.size + 1 := Heap.size_push ..
  show _ ∧ _
  rw [hz]
  have he : IsEnum ((s.heap.push { cls := .type "tuple_iterator", data := .fields #[.ref l, .int 0 0] }).push
      { cls := .type "enumerate", data := .fields #[.none, .bool false, .ref s.heap.objs.size, rawInt 0, .none, .none] }) (s.heap.objs.size + 1) s.heap.objs.size 0 .none := by
    have := Heap.get?_push_size (s.heap.push { cls := .type "tuple_iterator", data := .fields #[.ref l, .int 0 0] })
      (o := { cls := .type "enumerate", data := .fields #[.none, .bool false, .ref s.heap.objs.size, rawInt 0, .none, .none] }) rfl
    rw [hz] at this; exact this
  refine ⟨⟨_, he, rfl⟩, h _ he ⟨_, Heap.get?_push_of_some _ (Heap.get?_push_size _ rfl), rfl, rfl⟩ (by rw [Heap.size_push, hz]) fun b o x => Heap.get?_push_of_some _ (Heap.get?_push_of_some _ x)⟩
def IteT (K : PySem.W.Frag) (a : Addr) : It :=
  ⟨fun i H => ∃ (xs : List V) (x : V), SqT K H a xs ∧ xs[i]? = some x, fun i H v H' => ∃ T x, v = .ref T ∧ H T = none ∧ H' = upd H T (.tup [.int (i : Nat), x]) ∧ ∀ xs, SqT K H a xs → xs[i]? = some x, fun i H => ∃ xs : List V, SqT K H a xs ∧ xs.length = i⟩
theorem turn_enumT {P : Program} {w : World} {K : PySem.W.Frag} {elts : List Expr} {kk : Nat} {tpos : Pos} (a e it : Addr) (hai : a ≠ it) (hea : e ≠ a) :
    Turn P w K (.Tuple elts kk tpos) (IteT K a) [e, it] e (fun i h => (∃ old, IsEnum h e it ((i : Nat) : Int) old) ∧ h.IsTupleIter it a i ∧ e ≠ it) where
  mem := by simp
  obj := fun i h st b hb => by
    obtain ⟨⟨old, he⟩, ⟨o, ho, hc, hd⟩, _⟩ := st
    have e' : b = e ∨ b = it := by simpa using hb
    rcases e' with z | z
    · rw [z]; exact ⟨_, he, fun v q => nomatch q⟩
    · rw [z]; exact ⟨o, ho, fun v q => by rw [hd] at q; cases q⟩
  keep := fun i h h' st k => let ⟨⟨old, he⟩, hi, hne⟩ := st; ⟨⟨old, k e (by simp) _ he⟩, hi.at fun o q => k it (by simp) o q, hne⟩
  item := by
    intro X hP hw hK hc i pins s σ H E I hf st hg
    subst hP hw hK
    obtain ⟨⟨old, he⟩, hit, hne⟩ := st
    obtain ⟨xs, x, hq, hx⟩ := hg
    obtain ⟨its, rv, p, hz⟩ := I.tuple hq
    obtain ⟨u, hu, ru⟩ := rv.get hx
    have hlt : i < its.toArray.size := by
      obtain ⟨h1, _⟩ := List.getElem?_eq_some_iff.mp hu
      simpa using h1
    have hel : e < s.heap.objs.size := Heap.lt_size he
    have hil : it < s.heap.objs.size := by obtain ⟨_, q, _⟩ := hit; exact Heap.lt_size q
    refine wpAny_pyNext_enum_itemD (Draws.tuple (A := X.A.in1) (I.ok.hd hc) it a hai its.toArray) he ⟨hit, p⟩ hlt hne (by simp; exact ⟨hne, hea⟩) fun y h' tk hy ho hst hT hsz hk => ?_
    obtain rfl : y = u := by
      have z : its.toArray[i]? = some u := by simpa using hu
      exact Option.some.inj ((show its.toArray[i]? = some y from hy).symm.trans z)
    refine ⟨_, rfl, wpAny_letOwnedTupleGo_enum (s := { s with heap := h', toks := tk + 1 }) ho fun h'' he' sb => ?_⟩
    have hT2 : h''.get? s.heap.objs.size = some { cls := .type "tuple", data := .seq #[.int i tk, y] } := (sb.2 _ (Nat.ne_of_gt hel)).trans hT
    have new : ObjOk X.prog X.w (upd H s.heap.objs.size (.tup [.int (i : Nat), x])) h'' s.heap.objs.size (.tup [.int (i : Nat), x]) :=
      ⟨by show 2 ≤ sizeLine; decide, [.int i tk, y], .cons ⟨_, rfl⟩ (.cons ru .nil), ⟨_, hT2, rfl, _, rfl⟩⟩
    have I1 : Inv X pins σ (upd H s.heap.objs.size (.tup [.int (i : Nat), x])) { s with heap := h'', toks := tk + 1 } :=
      I.turnedNew (ch := [e, it]) (fun b ob hb q => (sb.2 b (fun z => hb (by simp [z]))).trans (hk b ob (fun z => hb (by simp [z])) (fun z => hb (by simp [z])) q)) hf (Nat.le_refl _) new
    refine ⟨.ref s.heap.objs.size, _, I1, rfl, ⟨_, x, rfl, I.hok.fresh (Nat.le_refl _), rfl, fun ys hy => by rw [I.tuple_inj hy hq]; exact hx⟩, ⟨⟨y, ?_⟩, hst.1.at fun o q => (sb.2 it (Ne.symm hne)).trans q, hne⟩, fun b hb => ?_⟩
    · have e1 : ((i + 1 : Nat) : Int) = (i : Int) + 1 := by omega
      rw [e1]; exact he'
    · have hb' : b < s.heap.objs.size := by
        have e' : b = e ∨ b = it := by simpa using hb
        rcases e' with z | z
        · rw [z]; exact hel
        · rw [z]; exact hil
      rw [upd_ne (Nat.ne_of_lt hb')]
      exact (hf b hb).1
  done := by
    intro X hP hw hK hc i pins s σ H E I hf st hg
    subst hP hw hK
    obtain ⟨⟨old, he⟩, hit, hne⟩ := st
    obtain ⟨xs, hq, hx⟩ := hg
    obtain ⟨its, rv, p, hz⟩ := I.tuple hq
    obtain ⟨f0, f1, f2, f3, f4, f5⟩ := hf it (by simp)
    have hl := rv.length
    have hi : i = its.toArray.size := by simp; omega
    exact wpAny_pyNext_enum_endD (Draws.tuple (A := X.A.in1) (I.ok.hd hc) it a hai its.toArray) he ⟨hi ▸ hit, p⟩ fun h' eb => ⟨rfl, I.turned (t' := s.toks) (fun b o hb q => eb b o hb q) f0 f1 f3 f4 f5⟩
  self := fun A i s Q E st h => let ⟨⟨_, he⟩, _⟩ := st; wpAny_pyIter_enum he h
def iEnumT (K : PySem.W.Frag) (ta : TA) : TI := fun σ H R => ta σ H fun vs H1 => ∃ a xs, vs = [.ref a] ∧ SqT K H1 a xs ∧ R (IteT K a) H1
theorem pi_enumT {X : Cx} {e : Expr} {ta : TA} {p pos tpos : Pos} {elts : List Expr} {kk : Nat} (hg : Gl X "enumerate") (hm : X.mg "enumerate" = none) (ha : PA X [e] ta) (hs : starEach [e] X.env = [(false, eval e X.env)] := by rfl) :
    PI X (.Tuple elts kk tpos) (.Call (.Name "enumerate" p) [e] [] pos) (iEnumT X.K ta) := by
  refine ⟨fun pins s σ H R I h => ?_⟩
  refine Call_ (ld_blt I hg hm boot_enumerate (PyProof.Rows.callWith_type1 (thn (ha.run pos pins s σ H _ I h) fun us s1 ⟨vs, H1, I1, r1, q1⟩ => ?_) hs rfl))
  obtain ⟨a, xs, ex, hq, q⟩ := q1
  subst ex
  cases r1 with
  | cons r rr =>
    cases rr
    cases r
    obtain ⟨its, rv, p', hz⟩ := I1.tuple hq
    have hal : a < s1.heap.objs.size := p'.lt
    refine call_enumerate_tuple (items := its.toArray) p' fun h' he hit hsz hk => wpAny_pyIter_enum he ?_
    have I2 : Inv X pins σ H1 { s1 with heap := h' } := I1.kept (t' := s1.toks) hk
    refine ⟨s1.heap.objs.size + 1, [s1.heap.objs.size + 1, s1.heap.objs.size], _, _, H1, rfl, I2, turn_enumT a (s1.heap.objs.size + 1) s1.heap.objs.size (Nat.ne_of_lt hal) (Ne.symm (Nat.ne_of_lt (Nat.lt_succ_of_lt hal))), ⟨⟨.none, he⟩, hit, Nat.succ_ne_self _⟩, fun b hb => ?_, q⟩
    have e' : b = s1.heap.objs.size + 1 ∨ b = s1.heap.objs.size := by simpa using hb
    have hle : s1.heap.objs.size ≤ b := by
      rcases e' with z | z
      · rw [z]; exact Nat.le_add_right _ _
      · rw [z]; exact Nat.le_refl _
    exact I1.fpOk hle (I1.hok.fresh hle)
theorem walk_enumT {K : PySem.W.Frag} {a : Addr} {xs : List V} : Walk (IteT K a) xs.length (fun H => SqT K H a xs) (YPair (fun i => some (.int (i : Nat))) (fun i => xs[i]?)) where
  goes := fun i H hi h => ⟨xs, xs[i], h, List.getElem?_eq_getElem hi⟩
  stops := fun H h => ⟨xs, h, rfl⟩
  yields := fun i H x H' _ h hy => by
    obtain ⟨T, y, rfl, hT, rfl, e⟩ := hy
    exact ⟨T, _, y, rfl, hT, rfl, rfl, e xs h⟩
theorem ite_dec {c A B : Prop} [Decidable c] (h1 : c → A) (h2 : ¬ c → B) : if decide c = true then A else B := by
  by_cases h : c
  · rw [decide_eq_true h]; exact iteT (h1 h)
  · rw [decide_eq_false h]; exact iteF (h2 h)
section
variable {X : Cx} {x : Str} {pos : Pos}
/-- a built-in class as a value -/
theorem pe_ty (T : String) (hg : Gl X x) (hm : X.mg x = none) (hv : bootBuiltins x = some (.type T) := by decide +kernel) (hn : x ≠ "__name__" := by decide) (hd : (x == ("__debug__" : Str)) = false := by decide) : PE X (.Name x pos) (tC (.ty T)) :=
  pe_bltn hg hm hv rfl hn hd
end
section
variable {K : PySem.W.Frag} {H : Hp} {Q : VK} {x : V} {a : Addr}
/-- isinstance, not to be looked into -/
structure RIs (K : PySem.W.Frag) (vs : List V) (H : Hp) (Q : VK) : Prop where
  h : rIsi K vs H Q
theorem call_isiS {X : Cx} : CallR X (.builtin "isinstance") (RIs X.K) := fun pins s σ H xs us Q I r h => call_isi pins s σ H xs us Q I r h.h
theorem isi_of {T U : String} {b : Bool} (ty : TyX K H x (.type T)) (h : kitB T U = some b) (q : Q (.bl b) H) : RIs K [x, .ty U] H Q := ⟨⟨_, _, _, _, _, rfl, .ty U, ty, kit_ty h, q⟩⟩
theorem isi_int (i : Int) (q : Q (.bl true) H) : RIs K [.int i, .ty "int"] H Q := isi_of (.base (.int i)) (by decide +kernel) q
theorem isi_intb (i : Int) (q : Q (.bl false) H) : RIs K [.int i, .ty "bool"] H Q := isi_of (.base (.int i)) (by decide +kernel) q
theorem ty_tup {xs : List V} (h : SqT K H a xs) : TyX K H (.ref a) (.type "tuple") := by
  rcases h with (h | ⟨o, h⟩) | ⟨o, its, n, l, c, _⟩
  · exact .base (.tup h)
  · exact .fTuple h
  · exact .kTuple l c
theorem ty_lst {xs : List V} (h : SqL K H a xs) : TyX K H (.ref a) (.type "list") := by
  rcases h with (h | ⟨o, h⟩) | ⟨o, its, n, l, c, _⟩
  · exact .base (.lst h)
  · exact .base (.frz h)
  · exact .kList l c
/-- the name of a data's type -/
def tyName : PyData → String
  | .none => "NoneType"
  | .bool _ => "bool"
  | .int _ => "int"
  | .str _ => "str"
  | .list _ => "list"
  | .tuple _ => "tuple"
  | _ => ""
end
theorem ty_dp {K : PySem.W.Frag} {H : Hp} : ∀ {v : V} {d : PyData}, Dp K H v d → TyX K H v (.type (tyName d))
  | _, _, .non => .base .non
  | _, _, .bl b => .base (.bl b)
  | _, _, .int i => .base (.int i)
  | _, _, .str x => .base (.str x)
  | _, _, .lst h _ => ty_lst h
  | _, _, .tup h _ => ty_tup h
theorem isi_dp {K : PySem.W.Frag} {H : Hp} {Q : VK} {v : V} {d : PyData} {U : String} {b : Bool} (h : Dp K H v d) (e : kitB (tyName d) U = some b) (q : Q (.bl b) H) : RIs K [v, .ty U] H Q := isi_of (ty_dp h) e q
/-! ### the rules with K told (within a comprehension's block) -/
section
variable {X : Cx} {K : PySem.W.Frag}
theorem kix_list (h : X.K = K) : IxR X (rIxL K) := by subst h; exact ix_list
theorem kix_tup (h : X.K = K) : IxR X (rIxT K) := by subst h; exact ix_tup
theorem ksl_list (h : X.K = K) : SlR X (rSlL K) := by subst h; exact sl_list
theorem ksl_tup (h : X.K = K) : SlR X (rSlT K) := by subst h; exact sl_tup
theorem kcall_isiS (h : X.K = K) : CallR X (.builtin "isinstance") (RIs K) := by subst h; exact call_isiS
theorem kop_eqD (h : X.K = K) (hu : X.A.units + 64 < cLine) : OpR X (compareOp .Eq) (rEqD K) := by subst h; exact op_eqD hu
theorem kop_neD (h : X.K = K) (hu : X.A.units + 64 < cLine) : OpR X (compareOp .NotEq) (rNeD K) := by subst h; exact op_neD hu
theorem kop_in_seq (h : X.K = K) : OpR X (compareOp .In) (rIn K false) := by subst h; exact op_in_seq
theorem kop_notIn_seq (h : X.K = K) : OpR X (compareOp .NotIn) (rIn K true) := by subst h; exact op_notIn_seq
theorem kcall_len_seq (h : X.K = K) : CallR X (.builtin "len") (fun xs H Q => ∃ p ys, xs = [.ref p] ∧ (SqL K H p ys ∨ SqT K H p ys) ∧ Q (.int ys.length) H) := by subst h; exact call_len_seq
theorem kcall_tuple_of (h : X.K = K) : CallR X (.type "tuple") (fun xs H Q => ∃ p ys, xs = [.ref p] ∧ ((SqL K H p ys ∧ ∀ l, H l = none → Q (.ref l) (upd H l (.tup ys))) ∨ (SqT K H p ys ∧ Q (.ref p) H))) := by subst h; exact call_tuple_of
theorem kcall_list_of (h : X.K = K) : CallR X (.type "list") (fun xs H Q => ∃ p ys, xs = [.ref p] ∧ (SqL K H p ys ∨ SqT K H p ys) ∧ ∀ l, H l = none → Q (.ref l) (upd H l (.lst ys))) := by subst h; exact call_list_of
theorem kcr_sum (h : X.K = K) (hc : X.calm = true) : CallR X (.builtin "sum") (rSum K) := by subst h; exact cr_sum hc
theorem kcr_min (h : X.K = K) (hc : X.calm = true) : CallR X (.builtin "min") (rMin K) := by subst h; exact cr_min hc
theorem kcr_max (h : X.K = K) (hc : X.calm = true) : CallR X (.builtin "max") (rMax K) := by subst h; exact cr_max hc
theorem kcr_all (h : X.K = K) (hc : X.calm = true) : CallR X (.builtin "all") (rAll K) := by subst h; exact cr_all hc
theorem kcr_any (h : X.K = K) (hc : X.calm = true) : CallR X (.builtin "any") (rAny K) := by subst h; exact cr_any hc
theorem kop_catT (h : X.K = K) : OpR X (binaryOp .Add) (rCatT K) := by subst h; exact op_catT
variable {tg l e : Expr} {tl ta : TE} {f : Str} {pos : Pos}
theorem kpi_list (h : X.K = K) (hl : PE X l tl) : PI X tg l (iList K tl) := by subst h; exact pi_list hl
theorem kpi_tup (h : X.K = K) (hl : PE X l tl) : PI X tg l (iTup K tl) := by subst h; exact pi_tup hl
theorem kpe_fld (h : X.K = K) (he : PE X e ta) (hb : attributeBase e f X.env (eval e X.env) = eval e X.env) : PE X (.Attribute e f pos) (tFld K ta f) := by subst h; exact pe_fld he hb
theorem kpg_tup {es : List Expr} {k : Nat} {t : TGs} {n : Nat} (h : X.K = K) (hc : X.calm = true) (hp : PGs X es t) (hn : (assignEach es X.env).length = n := by rfl) (hst : (assignEach es X.env).findIdx? (·.1) = none := by rfl) : PG X (.Tuple es k pos) (gTup K n t) := by subst h; exact pg_tup hc hp hn hst
end
/-- a while by a word W that falls; Ex: what holds behind it -/
theorem while_ex {c : TT} {tb : TS} {D : Ends} {σ : L2.St} {H : Hp} (W : Nat → L2.St → Hp → Prop) (Ex : L2.St → Hp → Prop) (h0 : ∃ m, W m σ H)
    (hs : ∀ m σ H, W m σ H → ∀ Z : L2.St → Hp → Prop, (∀ σ' H', Ex σ' H' → Z σ' H') → c σ H fun b H1 => if b = true then ∃ N : L2.St → Hp → Prop, (∀ σ' H', N σ' H' → ∃ m', m' < m ∧ W m' σ' H') ∧ tb { D with nx := N, ct := N, bk := Z } σ H1 else Z σ H1)
    (hx : ∀ σ H, Ex σ H → D.nx σ H) : tWhile c tb D σ H := ⟨W, h0, fun m σ H h => hs m σ H h D.nx hx⟩
/-! ### comprehensions by a word over what is made -/
theorem walk_zipT {K : PySem.W.Frag} {a b : Addr} {xs ys : List V} {n : Nat} (hx : xs.length = n) (hy : ys.length = n) : Walk (RZ.ItzT K a b) n (fun H => SqT K H a xs ∧ SqT K H b ys) (YPair (fun i => xs[i]?) (fun i => ys[i]?)) where
  goes := fun i H hi h => ⟨xs, ys, _, _, h.1, h.2, List.getElem?_eq_getElem (by omega), List.getElem?_eq_getElem (by omega)⟩
  stops := fun H h => ⟨xs, ys, h.1, h.2, .inl (by omega)⟩
  yields := fun i H x H' _ h hy => by
    obtain ⟨T, y, z, rfl, hT, rfl, e1, e2⟩ := hy
    exact ⟨T, y, z, rfl, hT, rfl, e1 xs h.1, e2 ys h.2⟩
inductive Ers {α : Type} (Er : Hp → V → α → Prop) (H : Hp) : List V → List α → Prop
  | nil : Ers Er H [] []
  | cons {v : V} {a : α} {vs : List V} {l : List α} : Er H v a → Ers Er H vs l → Ers Er H (v :: vs) (a :: l)
section
variable {α : Type} {Er : Hp → V → α → Prop} {H H' : Hp}
theorem Ers.len : ∀ {vs : List V} {l : List α}, Ers Er H vs l → vs.length = l.length
  | _, _, .nil => rfl
  | _, _, .cons _ t => by rw [List.length_cons, List.length_cons, t.len]
theorem Ers.mono (m : ∀ y a, Er H y a → Er H' y a) : ∀ {vs : List V} {l : List α}, Ers Er H vs l → Ers Er H' vs l
  | _, _, .nil => .nil
  | _, _, .cons h t => .cons (m _ _ h) (t.mono m)
theorem Ers.mono' {Er' : Hp → V → α → Prop} (m : ∀ y a, Er H y a → Er' H y a) : ∀ {vs : List V} {l : List α}, Ers Er H vs l → Ers Er' H vs l
  | _, _, .nil => .nil
  | _, _, .cons h t => .cons (m _ _ h) (t.mono' m)
theorem Ers.snoc {y : V} {a : α} (h : Er H y a) : ∀ {vs : List V} {l : List α}, Ers Er H vs l → Ers Er H (vs ++ [y]) (l ++ [a])
  | _, _, .nil => .cons h .nil
  | _, _, .cons h' t => .cons h' (t.snoc h)
theorem Ers.app : ∀ {vs ws : List V} {l m : List α}, Ers Er H vs l → Ers Er H ws m → Ers Er H (vs ++ ws) (l ++ m)
  | _, _, _, _, .nil, h => h
  | _, _, _, _, .cons h t, u => .cons h (t.app u)
theorem Ers.get : ∀ {vs : List V} {l : List α} {i : Nat} {v : V}, Ers Er H vs l → vs[i]? = some v → ∃ a, l[i]? = some a ∧ Er H v a
  | _, _, _, _, .nil, h => by simp at h
  | _, _, 0, _, .cons h _, e => by simp at e; subst e; exact ⟨_, rfl, h⟩
  | _, _, i + 1, v, .cons _ t, e => by
    obtain ⟨d, h1, h2⟩ := Ers.get (i := i) (v := v) t (by simpa using e)
    exact ⟨d, by simpa using h1, h2⟩
/-- ints -/
def ErI : Hp → V → Int → Prop := fun _ y a => y = .int a
theorem Ers.ints {H : Hp} : ∀ {vs : List V} {l : List Int}, Ers ErI H vs l → vs = l.map V.int
  | _, _, .nil => rfl
  | _, _, .cons h t => by rw [List.map_cons, ← t.ints, show _ = V.int _ from h]
end
/-- [elt for .. if ..]: Rl how the heap goes on, Er what an item is, P the word over the items made so far -/
theorem lc_inv {α : Type} {J : It} {n : Nat} {G : Hp → Prop} {Y : Nat → Hp → V → Hp → Prop} (w : Walk J n G Y) (hn : n ≤ 100000) {g : TG} {tt : TT} {te : TE} {vs : List Nat} {σ : L2.St} {H1 : Hp} {D : Addr} {Qd : Hp → Prop}
    (Rl : Hp → Hp → Prop) (rr : ∀ H, Rl H H) (rt : ∀ H H' H'', Rl H H' → Rl H' H'' → Rl H H'') (rp : ∀ H o, Rl H1 H → Rl H1 (upd H D o)) (rk : ∀ H H' o, Rl H1 H → Rl H H' → H D = some o → H' D = some o)
    (Er : Hp → V → α → Prop) (em : ∀ H H' y a, Rl H1 H → Rl H H' → Er H y a → Er H' y a) (ep : ∀ H o y a, Rl H1 H → Er H y a → Er (upd H D o) y a)
    (P : Nat → List α → Prop) (h0 : P 0 []) (hG : ∀ H, Rl H1 H → G H)
    (hs : ∀ i x H H' l, i < n → Rl H1 H → (∃ acc, H D = some (.lst acc)) → P i l → Y i H x H' → ∀ (A : V → Hp → Prop) (B : Hp → Prop), (∀ y a H4, Rl H H4 → Er H4 y a → P (i + 1) (l ++ [a]) → A y H4) → (∀ H3, Rl H H3 → P (i + 1) l → B H3) →
      g x (wipe σ vs) H' fun σ2 H2 => wipe σ2 vs = wipe σ vs ∧ tt σ2 H2 fun b H3 => if b = true then te σ2 H3 A else B H3)
    (hd : ∀ H' us l, Rl H1 H' → H' D = some (.lst us) → Ers Er H' us l → P n l → Qd H') :
    ∃ W : Nat → Nat → Hp → Prop, (∃ m, W 0 m (upd H1 D (.lst []))) ∧ ∀ i m H, W i m H → (J.stop i H ∧ Qd H) ∨ (J.go i H ∧ ∃ Nx : Hp → Prop, (∀ H', Nx H' → ∃ m', m' < m ∧ W (i + 1) m' H') ∧ ∀ x H', J.yld i H x H' → g x (wipe σ vs) H' fun σ2 H2 => wipe σ2 vs = wipe σ vs ∧ tt σ2 H2 fun b H3 => if b = true then te σ2 H3 fun y H4 => ∃ acc, H4 D = some (.lst acc) ∧ acc.length < sizeLine ∧ Nx (upd H4 D (.lst (acc ++ [y]))) else Nx H3) := by
  refine lc_it w (fun i H => Rl H1 H ∧ ∃ us l, H D = some (.lst us) ∧ Ers Er H us l ∧ P i l ∧ l.length ≤ i) ⟨rp _ _ (rr _), [], [], upd_same, .nil, h0, Nat.le_refl _⟩ (fun i H _ h => hG H h.1) ?_ ?_
  · rintro i x H H' hi ⟨r, us, l, hD, hE, hP, hl⟩ hy
    refine hs i x H H' l hi r ⟨_, hD⟩ hP hy _ _ (fun y a H4 r4 e4 p4 => ?_) (fun H3 r3 p3 => ?_)
    · have r14 := rt _ _ _ r r4
      refine ⟨us, rk _ _ _ r r4 hD, ?_, rp _ _ r14, us ++ [y], l ++ [a], upd_same, ?_, p4, by rw [List.length_append]; exact Nat.succ_le_succ hl⟩
      · rw [hE.len]
        exact Nat.lt_of_le_of_lt (Nat.le_trans hl (Nat.le_trans (Nat.le_of_lt hi) hn)) (by decide)
      · exact (((hE.mono fun y a h => em _ _ y a r r4 h).snoc e4).mono fun y a h => ep _ _ y a r14 h)
    · exact ⟨rt _ _ _ r r3, us, l, rk _ _ _ r r3 hD, hE.mono fun y a h => em _ _ y a r r3 h, p3, Nat.le_succ_of_le hl⟩
  · rintro H ⟨r, us, l, hD, hE, hP, _⟩
    exact hd H us l r hD hE hP
theorem t_yes {σ : L2.St} {H : Hp} {P1 P2 : Hp → Prop} (h : P1 H) : tYes σ H (fun b H3 => if b = true then P1 H3 else P2 H3) := by
  show (if true = true then P1 H else P2 H)
  rw [if_pos rfl]
  exact h
/-- the same where the heap only grows -/
theorem lc_same {α : Type} {J : It} {n : Nat} {G : Hp → Prop} {Y : Nat → Hp → V → Hp → Prop} (w : Walk J n G Y) (hn : n ≤ 100000) {g : TG} {tt : TT} {te : TE} {vs : List Nat} {σ : L2.St} {H1 : Hp} {D : Addr} {Qd : Hp → Prop} (hD : H1 D = none)
    (Er : Hp → V → α → Prop) (em : ∀ H H' y a, Same H1 H → Same H H' → Er H y a → Er H' y a) (ep : ∀ H o y a, Same H1 H → Er H y a → Er (upd H D o) y a)
    (P : Nat → List α → Prop) (h0 : P 0 []) (hG : ∀ H, Same H1 H → G H)
    (hs : ∀ i x H H' l, i < n → Same H1 H → (∃ acc, H D = some (.lst acc)) → P i l → Y i H x H' → ∀ (A : V → Hp → Prop) (B : Hp → Prop), (∀ y a H4, Same H H4 → Er H4 y a → P (i + 1) (l ++ [a]) → A y H4) → (∀ H3, Same H H3 → P (i + 1) l → B H3) →
      g x (wipe σ vs) H' fun σ2 H2 => wipe σ2 vs = wipe σ vs ∧ tt σ2 H2 fun b H3 => if b = true then te σ2 H3 A else B H3)
    (hd : ∀ H' us l, Same H1 H' → H' D = some (.lst us) → Ers Er H' us l → P n l → Qd H') :
    ∃ W : Nat → Nat → Hp → Prop, (∃ m, W 0 m (upd H1 D (.lst []))) ∧ ∀ i m H, W i m H → (J.stop i H ∧ Qd H) ∨ (J.go i H ∧ ∃ Nx : Hp → Prop, (∀ H', Nx H' → ∃ m', m' < m ∧ W (i + 1) m' H') ∧ ∀ x H', J.yld i H x H' → g x (wipe σ vs) H' fun σ2 H2 => wipe σ2 vs = wipe σ vs ∧ tt σ2 H2 fun b H3 => if b = true then te σ2 H3 fun y H4 => ∃ acc, H4 D = some (.lst acc) ∧ acc.length < sizeLine ∧ Nx (upd H4 D (.lst (acc ++ [y]))) else Nx H3) :=
  lc_inv w hn Same Same.refl (fun _ _ _ a b => a.trans b) (fun H o h => same_mut h hD) (fun _ _ o _ h e => h _ _ e) Er em ep P h0 hG hs hd
/-! ### max, min of a tuple of ints, of three ints -/
theorem hl_lay_ints : ∀ ns : List Int, PyData.canLayAll0 (ns.map PyData.int) = true
  | [] => by simp [PyData.canLayAll0]
  | n :: r => by simp [PyData.canLayAll0, PyData.canLay0, hl_lay_ints r]
theorem hl_depth_ints : ∀ ns : List Int, PyData.depthAll (ns.map PyData.int) = 0
  | [] => by simp [PyData.depthAll]
  | n :: r => by
    have h := hl_depth_ints r
    simp only [List.map_cons, PyData.depthAll, PyData.depth, h]
    rfl
def rMaxT (K : PySem.W.Frag) : List V → Hp → VK → Prop := fun vs H Q => ∃ (a : Addr) (n : Int) (ns : List Int), vs = [V.ref a] ∧ SqT K H a ((n :: ns).map V.int) ∧ Q (.int (ns.foldl max n)) H
def rMinT (K : PySem.W.Frag) : List V → Hp → VK → Prop := fun vs H Q => ∃ (a : Addr) (n : Int) (ns : List Int), vs = [V.ref a] ∧ SqT K H a ((n :: ns).map V.int) ∧ Q (.int (ns.foldl min n)) H
theorem alike_ints (ns : List Int) : PySem.W.AlikeAll (ns.map PyData.int) := by
  refine ⟨fun x hx y hy => ?_, fun x hx => ?_⟩
  · obtain ⟨a, _, rfl⟩ := List.mem_map.mp hx
    obtain ⟨b, _, rfl⟩ := List.mem_map.mp hy
    rfl
  · obtain ⟨a, _, rfl⟩ := List.mem_map.mp hx
    exact fun z => nomatch z
theorem cr_maxT {X : Cx} (hc : X.calm = true) (hu : X.A.units + 65 < cLine) : CallR X (.builtin "max") (rMaxT X.K) := by
  intro pins s σ H vs us Q I r h
  obtain ⟨a, n, ns, rfl, hs, q⟩ := h
  obtain ⟨its, rv, hl, _⟩ := I.tuple hs
  rw [Vals.ref1 r]
  obtain ⟨as, hr⟩ := Dp.readsAll I _ _ its (dps_ints (n :: ns)) rv
  refine PySem.W.max_tuple_data (x := .int n) (xs := ns.map .int) (I.ok.hd hc) hl hr (alike_ints (n :: ns)) (by rw [show PyData.depthAll (PyData.int n :: ns.map .int) = 0 from hl_depth_ints (n :: ns)]; omega) fun i v h' tk bs _ hv hk => ?_
  rw [PySem.W.maxD_ints] at hv
  cases hv
  exact ⟨.int _, H, I.kept hk, ⟨_, rfl⟩, q⟩
theorem cr_minT {X : Cx} (hc : X.calm = true) (hu : X.A.units + 65 < cLine) : CallR X (.builtin "min") (rMinT X.K) := by
  intro pins s σ H vs us Q I r h
  obtain ⟨a, n, ns, rfl, hs, q⟩ := h
  obtain ⟨its, rv, hl, _⟩ := I.tuple hs
  rw [Vals.ref1 r]
  obtain ⟨as, hr⟩ := Dp.readsAll I _ _ its (dps_ints (n :: ns)) rv
  refine PySem.W.min_tuple_data (x := .int n) (xs := ns.map .int) (I.ok.hd hc) hl hr (alike_ints (n :: ns)) (by rw [show PyData.depthAll (PyData.int n :: ns.map .int) = 0 from hl_depth_ints (n :: ns)]; omega) fun i v h' tk bs _ hv hk => ?_
  rw [PySem.W.minD_ints] at hv
  cases hv
  exact ⟨.int _, H, I.kept hk, ⟨_, rfl⟩, q⟩
theorem kcr_minT {X : Cx} {K : PySem.W.Frag} (h : X.K = K) (hc : X.calm = true) (hu : X.A.units + 65 < cLine) : CallR X (.builtin "min") (rMinT K) := by subst h; exact cr_minT hc hu
theorem nuMax2_int (i j : Int) : nuMax2 (.int i) (.int j) = some (.int (if j > i then j else i)) := by
  show some (if decide (i < j) = true then V.int j else V.int i) = _
  by_cases h : i < j
  · rw [decide_eq_true h, if_pos rfl, if_pos h]
  · rw [decide_eq_false h, if_neg Bool.false_ne_true, if_neg h]
theorem nuMin2_int (i j : Int) : nuMin2 (.int i) (.int j) = some (.int (if j < i then j else i)) := by
  show some (if decide (j < i) = true then V.int j else V.int i) = _
  by_cases h : j < i
  · rw [decide_eq_true h, if_pos rfl, if_pos h]
  · rw [decide_eq_false h, if_neg Bool.false_ne_true, if_neg h]
def rMax3 : List V → Hp → VK → Prop := fun xs H Q => ∃ i j l : Int, xs = [.int i, .int j, .int l] ∧ Q (.int (if l > (if j > i then j else i) then l else (if j > i then j else i))) H
def rMin3 : List V → Hp → VK → Prop := fun xs H Q => ∃ i j l : Int, xs = [.int i, .int j, .int l] ∧ Q (.int (if l < (if j < i then j else i) then l else (if j < i then j else i))) H
theorem call_max3I {X : Cx} (hc : X.calm = true) : CallR X (.builtin "max") rMax3 := by
  intro pins s σ H xs us Q I r h
  obtain ⟨i, j, l, rfl, q⟩ := h
  refine call_max3Nu hc pins s σ H _ us Q I r ⟨_, _, _, _, rfl, ?_, q⟩
  show (nuMax2 (.int i) (.int j)).bind (fun m => nuMax2 m (.int l)) = _
  rw [nuMax2_int]
  exact nuMax2_int _ _
theorem call_min3I {X : Cx} (hc : X.calm = true) : CallR X (.builtin "min") rMin3 := by
  intro pins s σ H xs us Q I r h
  obtain ⟨i, j, l, rfl, q⟩ := h
  refine call_min3Nu hc pins s σ H _ us Q I r ⟨_, _, _, _, rfl, ?_, q⟩
  show (nuMin2 (.int i) (.int j)).bind (fun m => nuMin2 m (.int l)) = _
  rw [nuMin2_int]
  exact nuMin2_int _ _
/-! ### data that a law's own comparison takes -/
def Sc (C : PyData → Prop) (d : PyData) : Prop := d = .none ∨ (∃ b, d = .bool b) ∨ (∃ i, d = .int i) ∨ ∃ ds, d = .tuple ds ∧ ds.length ≤ 10000 ∧ ∀ x ∈ ds, C x
def ScF : PyData → Prop := fun _ => False
/-- equal data are told as equal -/
def spLike (K : PySem.W.Frag) (C : PyData → Prop) : Sp := fun vs H Q _ => ∃ v u d, vs = [v, u] ∧ Dp K H v d ∧ Dp K H u d ∧ C d ∧ ∀ H', Same H H' → Q (.bl true) H'
theorem spLike_no {P : Program} {w : World} {K : PySem.W.Frag} {mg : Str → Option Value} {base : Heap} {k : Nat} {f : Addr} {fd : FuncData} {ps : List Str} : FnOk P w K mg base CX0 k f fd ps (spLike K ScF) :=
  ⟨fun _ _ _ _ ⟨_, _, _, _, _, _, h, _⟩ => h.elim, fun _ _ _ _ _ _ _ _ _ _ _ _ _ ⟨_, _, _, _, _, _, h, _⟩ => h.elim⟩
/-- and, or of values whose answer is a bool -/
theorem and_rd {c : Bool} {A B : Prop} (h1 : c = true → A) (h2 : c = false → B) : ∃ c', V.bl c = .bl c' ∧ if c' = true then A else B := ⟨c, rfl, by
  cases c with
  | true => exact iteT (h1 rfl)
  | false => exact iteF (h2 rfl)⟩
theorem if_b {c : Bool} {A B : Prop} (h1 : c = true → A) (h2 : c = false → B) : if c = true then A else B := by
  cases c with
  | true => exact iteT (h1 rfl)
  | false => exact iteF (h2 rfl)
theorem if_n {c : Bool} {A B : Prop} (h1 : c = false → A) (h2 : c = true → B) : if (!c) = true then A else B := by
  cases c with
  | true => exact iteF (h2 rfl)
  | false => exact iteT (h1 rfl)
/-! ### a cut: what holds behind an expression, a test, a statement, told once -/
section
variable {X : Cx} {e : Expr} {te : TE} {tt : TT} {ts : TS} {sts : Stmt}
def cE (te : TE) : TE := fun σ H Q => ∃ φ : VK, te σ H φ ∧ ∀ v H', φ v H' → Q v H'
theorem pe_cut (h : PE X e te) : PE X e (cE te) := ⟨fun pins s σ H Q I ⟨φ, h1, h2⟩ => thn (h.run pins s σ H φ I h1) fun u s' ⟨v, H', I', r, q⟩ => ⟨v, H', I', r, h2 _ _ q⟩⟩
def cT (tt : TT) : TT := fun σ H Q => ∃ φ : Bool → Hp → Prop, tt σ H φ ∧ ∀ b H', φ b H' → Q b H'
theorem pt_cut (h : PT X e tt) : PT X e (cT tt) := ⟨fun pins s σ H Q I ⟨φ, h1, h2⟩ => thn (h.run pins s σ H φ I h1) fun u s' ⟨H', I', q⟩ => ⟨H', I', h2 _ _ q⟩⟩
def cS (ts : TS) : TS := fun D σ H => ∃ φ : L2.St → Hp → Prop, ts { D with nx := φ } σ H ∧ ∀ σ' H', φ σ' H' → D.nx σ' H'
theorem ps_cut (h : PS X sts ts) : PS X sts (cS ts) := ⟨fun pins s σ H D I ⟨φ, h1, h2⟩ => thn (h.run pins s σ H { D with nx := φ } I h1) fun f s' q => by
  cases f with
  | next =>
    obtain ⟨σ', H', I', q⟩ := q
    exact ⟨σ', H', I', h2 _ _ q⟩
  | _ => exact q⟩
end
end Hl

namespace Hl
open PySem PySem.Spec PyProof.Rows L2
section
variable {prog : Program} {w : World} {A : Around} {E : Value → Shared → Prop} {s : Shared}
theorem collect_tup {l : Addr} {vs : List Value} {Q : List Value → Shared → Prop} (hl : IsTup s.heap l vs.toArray)
    (h : Q vs { s with heap := (s.heap.push (seqObj "list" #[] 0)).update s.heap.objs.size (Obj.mapSeq (· ++ vs.toArray)) }) (hsz : vs.length ≤ sizeLine) :
    wpAny (model prog w) A (collect (.ref l)) Q E s := by
  obtain ⟨o, ho, hc, n, hd⟩ := id hl
  unfold collect
  refine wpAny_bind (wpAny_runValue (codeAny_builtin entry_proto_collect' ?_))
  show wpAny _ _ (do again (.builtin "list.__iadd__" ⟨[← newList [], .ref l], []⟩)) _ _ s
  refine wpAny_bind (wpAny_newList (wpAny_pure ⟨Code.quiet_builtin _ (by decide +kernel), codeAny_builtin entry_list_iadd' ?_⟩))
  show wpAny _ _ (Builtin.List.listExtendWith (.ref s.heap.objs.size) (.ref l) (.ref s.heap.objs.size)) _ _ { s with heap := s.heap.push (seqObj "list" #[] 0) }
  unfold Builtin.List.listExtendWith
  have ho' : (s.heap.push (seqObj "list" #[] 0)).get? l = some o := Heap.get?_push_of_some _ ho
  refine wpAny_bind (wpAny_typeOf (T := "tuple") ⟨o, ho', hc⟩ ?_)
  have ht : (Value.type "tuple" == Value.type "tuple") = true := by rfl
  rw [if_pos (by rw [ht]; simp)]
  refine wpAny_bind (listItems_at ho' hd ?_)
  refine wpAny_bind (listItems_at (xs := #[]) (n := 0) (Heap.get?_push_size _ rfl) rfl ?_)
  rw [if_neg (by simp)]
  refine wpAny_bind (listUpdate_at (xs := #[]) (n := 0) (Heap.get?_push_size _ rfl) rfl ?_ (Nat.zero_le _) (by show (#[] ++ vs.toArray).size ≤ sizeLine + 1; simp only [Array.size_append, List.size_toArray, List.length_nil]; omega))
  refine wpAny_pure ?_
  show wpAny (model prog w) A (do
      let o ← load s.heap.objs.size
      match o.data with
      | .seq xs _ => pure xs.toList
      | _ => unsupported "internal:collect") Q E { s with heap := (s.heap.push (seqObj "list" #[] 0)).update s.heap.objs.size (Obj.mapSeq (· ++ vs.toArray)) }
  refine wpAny_bind (wpAny_load (get?_update_seq (Heap.get?_push_size _ rfl) _) ?_)
  show wpAny _ _ (pure ((#[] : Array Value) ++ vs.toArray).toList) Q E _
  rw [show ((#[] : Array Value) ++ vs.toArray).toList = vs by simp]
  exact wpAny_pure h
open SrtO in
theorem sorted_ordT {l : Addr} {vs : List Value} {ltv : Value → Value → Bool} {Q : Value → Shared → Prop} (O : Swo ltv) (hl : IsTup s.heap l vs.toArray) (hz : vs.length ≤ sizeLine)
    (hS : 2 ≤ vs.length → ∀ (h₁ : Heap) (a : Addr), h₁.get? a = some (seqObj "list" vs.toArray 0) → (∀ b o, s.heap.get? b = some o → b ≠ a ∧ h₁.get? b = some o) → SortableO prog w A.in1.in1 { s with heap := h₁ } a vs ltv)
    (h : ∀ out : List Value, Srtd ltv out → Stb ltv out vs → Q (.ref (s.heap.objs.size + 1)) { s with heap := sortedAll s.heap vs out.toArray }) :
    wpAny (model prog w) A (call (.builtin "sorted") [.ref l]) Q E s := by
  refine Calls.call_function_entry kind_sorted plain_sorted entry_sorted (args_sorted1 _) ?_
  unfold Builtin.«sorted»
  refine wpAny_bind (m := checkCount "sorted" 1 1 _) (wpAny_pure ?_)
  refine wpAny_bind (collect_tup hl ?_ hz)
  refine wpAny_bind (wpAny_newList ?_ hz)
  have hsz : ((s.heap.push (seqObj "list" #[] 0)).update s.heap.objs.size (Obj.mapSeq (· ++ vs.toArray))).objs.size = s.heap.objs.size + 1 := by
    rw [Heap.size_update, size_push']
  have hoL : (((s.heap.push (seqObj "list" #[] 0)).update s.heap.objs.size (Obj.mapSeq (· ++ vs.toArray))).push (seqObj "list" vs.toArray 0)).get? (s.heap.objs.size + 1) = some (seqObj "list" vs.toArray 0) := by
    rw [← hsz]; exact Heap.get?_push_size _ rfl
  have keep : ∀ b o, s.heap.get? b = some o → b ≠ s.heap.objs.size + 1 ∧ (((s.heap.push (seqObj "list" #[] 0)).update s.heap.objs.size (Obj.mapSeq (· ++ vs.toArray))).push (seqObj "list" vs.toArray 0)).get? b = some o := fun b o q => by
    have hlt : b < s.heap.objs.size := Heap.lt_size q
    refine ⟨Nat.ne_of_lt (Nat.lt_succ_of_lt hlt), Heap.get?_push_of_some _ ?_⟩
    rw [Heap.get?_update_ne _ _ _ _ (Nat.ne_of_lt hlt)]
    exact Heap.get?_push_of_some _ q
  show wpAny _ _ _ _ _ { s with heap := ((s.heap.push (seqObj "list" #[] 0)).update s.heap.objs.size (Obj.mapSeq (· ++ vs.toArray))).push (seqObj "list" vs.toArray 0) }
  rw [hsz]
  refine wpAny_bind (wpAny_holding (wpAny_call_entry slot_list_sort ⟨_, hoL, rfl⟩ entry_list_sort (list_sort_ord O hoL hz (fun h2 => hS h2 _ _ hoL keep) fun out hs hb => ⟨_, rfl, ?_⟩) (args_list_sort _)))
  exact wpAny_pure ⟨_, rfl, h out hs hb⟩
end
/-- sorted(t), a tuple of ints -/
def rSortedTI (K : PySem.W.Frag) : List V → Hp → VK → Prop := fun vs H Q => ∃ (a : Addr) (ns : List Int), vs = [V.ref a] ∧ SqT K H a (ns.map V.int) ∧
  ∀ (ns' : List Int) (p : Addr), ns'.Perm ns → ns'.Pairwise (· ≤ ·) → H p = none → Q (.ref p) (upd H p (.lst (ns'.map V.int)))
theorem cr_sortedTI {X : Cx} : CallR X (.builtin "sorted") (rSortedTI X.K) := by
  intro pins s σ H vs us Q I r h
  obtain ⟨a, ns, rfl, hs, q⟩ := h
  obtain ⟨its, rv, hl, hz⟩ := I.tuple hs
  rw [Vals.ref1 r]
  have hi := rv.ints
  refine sorted_ordT SrtO.swo_int hl (by rw [← rv.length]; exact hz) (fun h2 h₁ a' _ _ => SrtO.ints_sortable hi h2) fun out h1 h2 => ?_
  obtain ⟨k1, k2, k3⟩ := SrtO.ints_out hi h1 h2
  obtain ⟨ep, he'⟩ := PyProof.Rows.sortedAll_at s.heap its out.toArray
  have hlen : ((out.map SrtO.iv).map V.int).length ≤ sizeLine := by
    rw [List.length_map, k2.length_eq]
    rw [List.length_map] at hz
    exact hz
  exact ⟨.ref _, upd H (s.heap.objs.size + 1) (.lst ((out.map SrtO.iv).map V.int)), I.laid (t' := s.toks) (fun _ _ => PyProof.Rows.sortedAll_old) (Nat.le_succ _) ⟨hlen, out, ep, vals_of_ints k1, he'⟩, rfl, q _ _ k2 k3 (I.hok.fresh (Nat.le_succ _))⟩
section
variable {P : Program} {w : World} {A : Around} {E : Value → Shared → Prop} {s : Shared}
set_option maxHeartbeats 3200000 in
theorem call_set_lstI {l : Addr} {items : Array Value} (ns : List Int) {Q : Value → Shared → Prop} (hh : A.handled = none) (hl : s.heap.IsList l items) (hit : IntsAre items.toList ns) (hb : ns.length + 1 < scanBound)
    (h : ∀ (h' : Heap) (tk c : Nat), SetR w h' s.heap.objs.size (fun j => decide (j ∈ ns)) c → c ≤ ns.length → (∀ b o, s.heap.get? b = some o → h'.get? b = some o) → Q (.ref s.heap.objs.size) { s with heap := h', toks := tk }) :
    wpAny (model P w) A (call (.type "set") [.ref l]) Q E s := by
  have hisz : items.size = ns.length := by
    have q := IntsAre.length hit
    rw [Array.length_toList] at q
    exact q
  obtain ⟨c, tl, hmro⟩ := F.called_set.mro
  have hmade := F.called_set.made
  have hsub := F.called_set.sub
  refine wpAny_call (codeAny_of_tree ?_)
  show wpAny _ _ (callAny (.type "set") _) _ _ _
  refine wpAny_pure ⟨Code.quiet_builtin _ (by decide +kernel), codeAny_builtin F.entry_type_call ?_⟩
  rw [Around.under_plain (weight_type_call_type "set" [.ref l] []) rfl]
  have h1 := F.called_set.notType
  have h2 := F.called_set.canCreate
  have hct := F.typeCall_set_1 (.ref l)
  repeat (any_goals (first | assumption | wp_step))

  refine codeAny_mono (code_set_led1 (.ref l) (E := E) (Q₁ := fun obj s₁ => obj = .ref s.heap.objs.size ∧ s₁ = { s with heap := s.heap.push { cls := .type "set", dict := none, data := .set #[] 0 (.fresh 0 0 (!w.params.followText "set-order")) } }) ⟨rfl, rfl⟩) fun r s₁ hr => ?_
  cases r with
  | error e => exact hr
  | ok fl =>
    cases fl with
    | ret obj =>
      obtain ⟨rfl, rfl⟩ := hr
      have hS : (s.heap.push { cls := .type "set", dict := none, data := .set #[] 0 (.fresh 0 0 (!w.params.followText "set-order")) }).get? s.heap.objs.size = some { cls := .type "set", dict := none, data := .set #[] 0 (.fresh 0 0 (!w.params.followText "set-order")) } := Heap.get?_push_size _ rfl
      have hT : Shared.TypeIs { s with heap := s.heap.push { cls := .type "set", dict := none, data := .set #[] 0 (.fresh 0 0 (!w.params.followText "set-order")) } } (.ref s.heap.objs.size) "set" := ⟨_, hS, rfl⟩
      have hli := F.called_set.init.lookup
      have hbi := F.called_set.init.bind (.ref s.heap.objs.size)
      repeat (any_goals (first | assumption | wp_step))

      refine codeAny_mono (codeAny_call_builtin (R := wants (fun r s₂ => r = .none ∧ ∃ h' tk c, s₂ = { s with heap := h', toks := tk } ∧ SetR w h' s.heap.objs.size (fun j => decide (j ∈ ns)) c ∧ c ≤ ns.length ∧
          (∀ b o, s.heap.get? b = some o → h'.get? b = some o)) E) F.called_set.init.plain F.entry_set_init (check_set_init_1 hT ?_)) fun r₂ s₂ hr₂ => ?_
      · obtain ⟨ol, hol, hcl, nl, hdl⟩ := hl
        obtain ⟨ocls, odict, odata, oslots⟩ := ol
        simp only at hcl hdl
        subst hcl; subst hdl
        have hol' : (s.heap.push { cls := .type "set", dict := none, data := .set #[] 0 (.fresh 0 0 (!w.params.followText "set-order")) }).get? l = some { cls := .type "list", dict := odict, data := .seq items nl, slots := oslots } := Heap.get?_push_of_some _ hol
        have hsls := F.sub_list_set
        have hslf := F.sub_list_frozenset
        have hne : (Value.type "list" == Value.type "dict") = false := by decide
        have hl1 : (s.heap.push { cls := .type "set", dict := none, data := .set #[] 0 (.fresh 0 0 (!w.params.followText "set-order")) }).IsList l items := ⟨_, hol', rfl, nl, rfl⟩
        unfold Builtin.«set.__init__» noKeywords Builtin.Frozenset.updateFrom
        generalize hPI : pyIter = PI
        wp_walk
        subst hPI

        refine wpAny_pyIter_list hl1 ?_
        refine wpAny_bind (wpAny_runValue ?_)
        have hlS : l < s.heap.objs.size := Heap.lt_size hol
        have hh3 : A.in1.in1.in1.handled = none := by simp [hh]
        have hz1 : (s.heap.push { cls := .type "set", dict := none, data := .set #[] 0 (.fresh 0 0 (!w.params.followText "set-order")) }).objs.size = s.heap.objs.size + 1 := Heap.size_push ..
        have hneI : l ≠ (s.heap.push { cls := .type "set", dict := none, data := .set #[] 0 (.fresh 0 0 (!w.params.followText "set-order")) }).objs.size := by
          rw [Heap.size_push]; exact Nat.ne_of_lt (Nat.lt_succ_of_lt hlS)
        have hSf : s.heap.objs.size ∉ [(s.heap.push { cls := .type "set", dict := none, data := .set #[] 0 (.fresh 0 0 (!w.params.followText "set-order")) }).objs.size, l] := by
          rw [Heap.size_push]; simp only [List.mem_cons, List.mem_singleton, List.not_mem_nil, or_false, not_or]
          exact ⟨Nat.ne_of_lt (Nat.lt_succ_self _), Nat.ne_of_gt hlS⟩
        have hval : ∀ (i : Nat) (v : Value), items[i]? = some v → ∃ k t, ns[i]? = some k ∧ v = .int k t := fun i v hv => by
          have hi : i < ns.length := by rw [← hisz]; exact (Array.getElem?_eq_some_iff.mp hv).1
          obtain ⟨t, e⟩ := PyProof.Rows.IntsAre.int_at hit i v (by rw [Array.getElem?_toList]; exact hv)
          refine ⟨ns[i], t, List.getElem?_eq_getElem hi, ?_⟩
          rw [e, List.getD_eq_getElem?_getD, List.getElem?_eq_getElem hi] <;> rfl
        refine set_update_ints ((Walks.list hh3 _ l hneI items).toS) s.heap.objs.size
          hSf ns hisz hb hval (items.size - 0) 0 _ (by omega) (Nat.zero_le _)
          ⟨⟨_, Heap.get?_push_size _ rfl, rfl, rfl⟩, (hl1.push _)⟩ ?hS0 ?hR
        case hS0 =>
          have hget : ((s.heap.push { cls := .type "set", dict := none, data := .set #[] 0 (.fresh 0 0 (!w.params.followText "set-order")) }).push { cls := .type "list_iterator", data := .fields #[.ref l, .int 0 0] }).get? s.heap.objs.size
              = some { cls := .type "set", dict := none, data := .set #[] 0 (.fresh 0 0 (!w.params.followText "set-order")) } := Heap.get?_push_of_some _ hS
          exact ⟨0, Nat.le_refl 0, setR_new_at hget⟩
        case hR =>
          intro s' c' hm hc' hS'
          obtain ⟨h', g2, d', tk', os'⟩ := s'
          have eg : g2 = s.gens := hm.gens
          have ed : d' = s.drawn := hm.drawn
          have eo : os' = s.os := hm.os
          subst eg; subst ed; subst eo
          show wpAny _ _ _ _ _ _
          refine wpAny_pure ?_
          show wpAny _ _ (ret Value.none) _ _ _
          rw [hisz] at hc'
          refine wpAny_pure ⟨rfl, h', tk', c', rfl, hS', hc', fun b o e => ?_⟩
          have hb0 : b < s.heap.objs.size := Heap.lt_size e
          have hb1 : b ≠ s.heap.objs.size := Nat.ne_of_lt hb0
          have hb2 : b ≠ (s.heap.push { cls := .type "set", dict := none, data := .set #[] 0 (.fresh 0 0 (!w.params.followText "set-order")) }).objs.size := by
            rw [Heap.size_push]; exact Nat.ne_of_lt (Nat.lt_succ_of_lt hb0)
          exact hm.heap b o (by simp only [List.mem_cons, List.mem_singleton, List.not_mem_nil, or_false, not_or]; exact ⟨hb1, hb2⟩) (Heap.get?_push_of_some _ (Heap.get?_push_of_some _ e))

      · cases r₂ with
        | error e => exact hr₂
        | ok fl₂ =>
          cases fl₂ with
          | ret r =>
            obtain ⟨rfl, h', tk, c', rfl, hS', hc', hk'⟩ := hr₂
            repeat (any_goals (first | assumption | wp_step))
            exact h _ _ _ hS' hc' hk'
          | _ => exact hr₂.elim
    | _ => exact hr.elim
end
/-- set(t), set(l) of ints -/
def rSetI (K : PySem.W.Frag) (w : World) : List V → Hp → VK → Prop := fun vs H Q => ∃ (a : Addr) (ns : List Int), vs = [V.ref a] ∧ (SqT K H a (ns.map V.int) ∨ SqL K H a (ns.map V.int)) ∧ ns.length ≤ 1000 ∧
  ∀ (p : Addr) (c : Nat), H p = none → c ≤ ns.length → Q (.ref p) (upd H p (SetO w p (fun j => decide (j ∈ ns)) c))
theorem cr_setTI {X : Cx} (hc : X.calm = true) : CallR X (.type "set") (rSetI X.K X.w) := by
  intro pins s σ H vs us Q I r h
  obtain ⟨a, ns, rfl, hs, hn, q⟩ := h
  rw [Vals.ref1 r]
  have hf := I.hok.fresh (Nat.le_refl _)
  rcases hs with hs | hs
  · obtain ⟨its, rv, hl, hz⟩ := I.tuple hs
    refine call_set_tupI ns (I.ok.hd hc) (show s.heap.IsTuple a its.toArray from hl) (ints_of_vals rv) (by unfold scanBound; omega) fun h' tk c R hcn k => ?_
    exact ⟨.ref _, upd H s.heap.objs.size (SetO X.w s.heap.objs.size (fun j => decide (j ∈ ns)) c), I.laid (t' := tk) k (Nat.le_refl _) (setO_new R), rfl, q _ c hf hcn⟩
  · obtain ⟨its, rv, hl, hz⟩ := I.list hs
    refine call_set_lstI ns (I.ok.hd hc) hl.isList (ints_of_vals rv) (by unfold scanBound; omega) fun h' tk c R hcn k => ?_
    exact ⟨.ref _, upd H s.heap.objs.size (SetO X.w s.heap.objs.size (fun j => decide (j ∈ ns)) c), I.laid (t' := tk) k (Nat.le_refl _) (setO_new R), rfl, q _ c hf hcn⟩
end Hl

namespace Hl
open PySem PySem.Spec PyProof.Rows L2
/-- the first i lists, one behind the other -/
def preL (lst : Nat → List Value) : Nat → List Value
  | 0 => []
  | i + 1 => preL lst i ++ lst i
theorem preL_mono (lst : Nat → List Value) : ∀ {i n : Nat}, i ≤ n → (preL lst i).length ≤ (preL lst n).length
  | i, 0, h => by rw [Nat.le_zero.mp h] <;> exact Nat.le_refl _
  | i, n + 1, h => by
    rcases Nat.lt_or_eq_of_le h with h | h
    · exact Nat.le_trans (preL_mono lst (Nat.le_of_lt_succ h)) (by show _ ≤ (preL lst n ++ lst n).length; rw [List.length_append]; omega)
    · rw [h] <;> exact Nat.le_refl _
section
variable {prog : Program} {w : World} {A : Around} {R : Result → Shared → Prop} {I ax S : Addr} {items : Array Value}
theorem sum_loop_lists (hh : A.in1.handled = none) (hne : ax ≠ I) (hSI : S ≠ I) (hSa : S ≠ ax) (lst : Nat → List Value) (h0 : Heap) (hbd : (preL lst items.size).length ≤ sizeLine)
    (hv : ∀ i v, items[i]? = some v → ∃ b nb, v = .ref b ∧ b ≠ S ∧ b ≠ I ∧ IsL h0 b (lst i).toArray nb) :
    ∀ (k i : Nat) (s : Shared) (acc : Addr) (na c : Nat), items.size - i = k → i ≤ items.size → s.heap.IsListIter I ax i → s.heap.IsList ax items → s.heap.get? S = some { cls := .type "list", dict := none, data := .seq #[.ref acc] c, slots := #[] } →
      IsL s.heap acc (preL lst i).toArray na → acc ≠ S → acc ≠ I → (∀ b o, b ≠ S → b ≠ I → h0.get? b = some o → s.heap.get? b = some o) →
      (∀ h' acc' na' tk, (∀ b o, b ≠ S → b ≠ I → s.heap.get? b = some o → h'.get? b = some o) → IsL h' acc' (preL lst items.size).toArray na' → acc' ≠ S → acc' ≠ I → (i < items.size → I < acc') → (i = items.size → acc' = acc) → R (.ok (.ret (.ref acc'))) { s with heap := h', toks := tk }) →
      codeAny (model prog w) A (.builtin "sum.loop" ⟨[.ref I, .ref S, rawInt 2, rawInt 0], []⟩) R s := by
  intro k
  have W := Walks.list (prog := prog) (w := w) hh I ax hne items
  induction k with
  | zero =>
    intro i s acc na c hk hi hit hl hS ha h1 h2 hkp hR
    have hin : i = items.size := by omega
    subst hin
    refine codeAny_builtin F.entry_sum_loop ?_
    rw [Around.under_plainId F.plain_sum_loop _]
    show wpAny _ A.in1 (seqItems? (.ref S) >>= _) _ _ s
    refine wpAny_bind (wpAny_seqItems hS rfl ?_)
    show wpAny _ A.in1 (tryCatch (pyNext (.ref I)) _ >>= _) _ _ s
    refine wpAny_bind (wpAny_tryCatch (W.done s _ _ ⟨hit, hl⟩ fun h' tk hm => ?_))
    refine wpAny_pure (hR h' acc na tk (fun b o _ hbI e => hm b o (by simp [hbI]) e) ?_ h1 h2 (fun z => absurd z (Nat.lt_irrefl _)) fun _ => rfl)
    exact hm _ _ (by simp [h2]) ha
  | succ k ih =>
    intro i s acc na c hk hi hit hl hS ha h1 h2 hkp hR
    have hlt : i < items.size := by omega
    refine codeAny_builtin F.entry_sum_loop ?_
    rw [Around.under_plainId F.plain_sum_loop _]
    show wpAny _ A.in1 (seqItems? (.ref S) >>= _) _ _ s
    refine wpAny_bind (wpAny_seqItems hS rfl ?_)
    show wpAny _ A.in1 (tryCatch (pyNext (.ref I)) _ >>= _) _ _ s
    refine wpAny_bind (wpAny_tryCatch (W.item i s _ _ hlt ⟨hit, hl⟩ fun v h' tk hP hst' hm => ?_))
    obtain ⟨b, nb, rfl, hbS, hbI, hb⟩ := hv i v hP
    have hS' := hm S _ (by simp [hSI]) hS
    have ha' := hm acc _ (by simp [h2]) ha
    have hb' := hm b _ (by simp [hbI]) (hkp b _ hbS hbI hb)
    show wpAny _ A.in1 ((holding [Value.ref b] (binaryOp .Add (.ref acc) (.ref b))).attempt >>= _) _ _ _
    have hpre : (preL lst i).toArray.size + (lst i).toArray.size ≤ sizeLine := by
      have := preL_mono lst (i := i + 1) (n := items.size) (by omega)
      rw [show preL lst (i + 1) = preL lst i ++ lst i from rfl, List.length_append] at this
      rw [List.size_toArray, List.size_toArray]
      omega
    refine wpAny_bind (wpAny_attempt (wpAny_holding (PySem.P.add_list ha' hb' ?_ hpre)))
    show wpAny _ A.in1 (updateSeq S (fun _ => #[.ref h'.objs.size]) >>= _) _ _ _
    have hS'' : (h'.push ({ cls := .type "list", data := .seq ((preL lst i).toArray ++ (lst i).toArray) } : Obj)).get? S = some { cls := .type "list", dict := none, data := .seq #[.ref acc] c, slots := #[] } := Heap.get?_push_of_some _ hS'
    refine wpAny_bind (wpAny_updateSeq hS'' rfl ?_)
    have hS₂ := Heap.get?_update_self (Obj.mapSeq fun _ => #[Value.ref h'.objs.size]) hS'' rfl
    have lt : ∀ b o, h'.get? b = some o → b < h'.objs.size := fun b o e => Heap.lt_size e
    have keep : ∀ b o, b ≠ S → h'.get? b = some o → (((h'.push ({ cls := .type "list", data := .seq ((preL lst i).toArray ++ (lst i).toArray) } : Obj)).update S (Obj.mapSeq fun _ => #[Value.ref h'.objs.size])).update S (Obj.mapSeq fun _ => #[Value.ref h'.objs.size])).get? b = some o := fun b o hb e => by
      rw [Heap.get?_update_ne _ _ _ _ hb, Heap.get?_update_ne _ _ _ _ hb]
      exact Heap.get?_push_of_some _ e
    refine wpAny_bind (wpAny_letGo ?_)
    have hsn : h'.objs.size ≠ S := fun z => Nat.lt_irrefl _ (z ▸ lt _ _ hS')
    have hsI : h'.objs.size ≠ I := by
      obtain ⟨oI, hoI, _⟩ := hst'.1
      exact fun z => Nat.lt_irrefl _ (z ▸ lt _ _ hoI)
    have hnew : (((h'.push ({ cls := .type "list", data := .seq ((preL lst i).toArray ++ (lst i).toArray) } : Obj)).update S (Obj.mapSeq fun _ => #[Value.ref h'.objs.size])).update S (Obj.mapSeq fun _ => #[Value.ref h'.objs.size])).get? h'.objs.size = some { cls := .type "list", data := .seq ((preL lst i).toArray ++ (lst i).toArray) } := by
      rw [Heap.get?_update_ne _ _ _ _ hsn, Heap.get?_update_ne _ _ _ _ hsn]
      exact Heap.get?_push_size _ rfl
    have epre : (preL lst (i + 1)).toArray = (preL lst i).toArray ++ (lst i).toArray := by
      show (preL lst i ++ lst i).toArray = _
      simp
    refine wpAny_bind (wpAny_updateSeq hS₂ rfl (wpAny_pure ⟨plainId_quiet F.plain_sum_loop _, ih (i + 1) _ h'.objs.size 0 _ (by omega) hlt (hst'.1.at fun o e => keep _ _ (Ne.symm hSI) e) (hst'.2.at fun o e => keep _ _ (Ne.symm hSa) e) (Heap.get?_update_self _ hS₂ rfl) (by rw [epre]; exact hnew) hsn hsI
      (fun b o hbS hbI e => keep b o hbS (hm b o (by simp [hbI]) (hkp b o hbS hbI e))) fun h'' acc' na' tk' hk'' hI'' n1 n2 f1 f2 => ?_⟩))
    refine hR h'' acc' na' tk' (fun b o hbS hbI e => hk'' b o hbS hbI (keep b o hbS (hm b o (by simp [hbI]) e))) hI'' n1 n2 (fun _ => ?_) (fun z => absurd z (Nat.ne_of_lt hlt))
    rcases Nat.lt_or_eq_of_le (show i + 1 ≤ items.size from hlt) with z | z
    · exact f1 z
    · rw [f2 z]
      obtain ⟨oI, hoI, _⟩ := hst'.1
      exact lt _ _ hoI
end
theorem args_sum2 (a b : Value) : argsOk "sum" ⟨[a, b], []⟩ := by unfold argsOk; kernel_rfl
theorem sub_list_str : isSubtype (.type "list") (.type "str") = pure false := by rw [isSubtype_type]; kernel_rfl
theorem sub_list_bytes : isSubtype (.type "list") (.type "bytes") = pure false := by rw [isSubtype_type]; kernel_rfl
theorem sub_list_bytearray : isSubtype (.type "list") (.type "bytearray") = pure false := by rw [isSubtype_type]; kernel_rfl
section
variable {prog : Program} {w : World} {A : Around} {E : Value → Shared → Prop} {s : Shared} {l e : Addr} {items : Array Value}
/-- sum(lists, []) -/
theorem call_sum_lists {Q : Value → Shared → Prop} (hh : A.handled = none) (hl : s.heap.IsList l items) {ne : Nat} (he : IsL s.heap e #[] ne) (lst : Nat → List Value) (hbd : (preL lst items.size).length ≤ sizeLine)
    (hv : ∀ i v, items[i]? = some v → ∃ b nb, v = .ref b ∧ IsL s.heap b (lst i).toArray nb)
    (h : ∀ h' acc na tk, (∀ b o, s.heap.get? b = some o → h'.get? b = some o) → IsL h' acc (preL lst items.size).toArray na → (0 < items.size → s.heap.objs.size < acc) → Q (.ref acc) { s with heap := h', toks := tk }) :
    wpAny (model prog w) A (call (.builtin "sum") [.ref l, .ref e]) Q E s := by
  refine call_function_tree F.kind_sum F.plain_sum F.entry_sum (args_sum2 _ _) ?_
  unfold Builtin.«sum»
  simp only [List.length_cons, List.length_nil]
  rw [if_neg (by decide)]
  refine wpAny_bind (wpAny_of_eq (show Builtin.Builtins.bindParams "sum" ["start"] 0 { pos := [.ref e], kw := [] } = pure [some (.ref e)] from rfl) ?_)
  refine wpAny_bind (wpAny_pyIter_list hl ?_)
  obtain ⟨ol, hol, hcl⟩ := id hl
  have hlt : l < s.heap.objs.size := Heap.lt_size hol
  have hel : e < s.heap.objs.size := Heap.lt_size he
  have kp1 : ∀ b o, s.heap.get? b = some o → (s.heap.push ({ cls := .type "list_iterator", data := .fields #[.ref l, .int 0 0] } : Obj)).get? b = some o := fun b o q => Heap.get?_push_of_some _ q
  have te : Shared.TypeIs { s with heap := s.heap.push ({ cls := .type "list_iterator", data := .fields #[.ref l, .int 0 0] } : Obj) } (.ref e) "list" := ⟨_, kp1 _ _ he, rfl⟩
  refine wpAny_bind (wpAny_pure ?_)
  simp only [List.forIn_cons, List.forIn_nil]
  refine wpAny_bind (wpAny_bind (wpAny_bind (wpAny_isInstance (T := "list") (b := false) te sub_list_str ?_)))
  simp only [Bool.false_eq_true, if_false]
  refine wpAny_pure (wpAny_bind (wpAny_bind (wpAny_isInstance (T := "list") (b := false) te sub_list_bytes ?_)))
  simp only [Bool.false_eq_true, if_false]
  refine wpAny_pure (wpAny_bind (wpAny_bind (wpAny_isInstance (T := "list") (b := false) te sub_list_bytearray ?_)))
  simp only [Bool.false_eq_true, if_false]
  refine wpAny_pure (wpAny_pure ?_)
  refine wpAny_bind (wpAny_newObj_type ?_)
  have hz1 : (s.heap.push ({ cls := .type "list_iterator", data := .fields #[.ref l, .int 0 0] } : Obj)).objs.size = s.heap.objs.size + 1 := Heap.size_push ..
  have kp2 : ∀ b o, s.heap.get? b = some o → ((s.heap.push ({ cls := .type "list_iterator", data := .fields #[.ref l, .int 0 0] } : Obj)).push ({ cls := .type "list", data := .seq #[.ref e] } : Obj)).get? b = some o := fun b o q => Heap.get?_push_of_some _ (kp1 b o q)
  have hit : ((s.heap.push ({ cls := .type "list_iterator", data := .fields #[.ref l, .int 0 0] } : Obj)).push ({ cls := .type "list", data := .seq #[.ref e] } : Obj)).IsListIter s.heap.objs.size l 0 := ⟨_, Heap.get?_push_of_some _ (Heap.get?_push_size _ rfl), rfl, rfl⟩
  have hneI : l ≠ s.heap.objs.size := Nat.ne_of_lt hlt
  refine wpAny_pure ⟨plainId_quiet F.plain_sum_loop _, sum_loop_lists (by simp [hh]) hneI (S := (s.heap.push ({ cls := .type "list_iterator", data := .fields #[.ref l, .int 0 0] } : Obj)).objs.size) (by rw [hz1]; exact Nat.succ_ne_self _) (by rw [hz1]; exact Nat.ne_of_gt (Nat.lt_succ_of_lt hlt)) lst s.heap hbd
    (fun i v hi => ?_) items.size 0 _ e ne 0 (by omega) (Nat.zero_le _) hit (hl.at fun o q => kp2 _ _ q) (Heap.get?_push_size _ rfl) (kp2 _ _ he) (by rw [hz1]; exact Nat.ne_of_lt (Nat.lt_succ_of_lt hel)) (Nat.ne_of_lt hel) (fun b o _ _ q => kp2 b o q) fun h' acc' na' tk hk hI' n1 n2 f1 _ => ?_⟩
  · obtain ⟨b, nb, e1, hb⟩ := hv i v hi
    have hbl : b < s.heap.objs.size := Heap.lt_size hb
    exact ⟨b, nb, e1, by rw [hz1]; exact Nat.ne_of_lt (Nat.lt_succ_of_lt hbl), Nat.ne_of_lt hbl, hb⟩
  · refine h h' acc' na' tk (fun b o q => hk b o ?_ ?_ (kp2 b o q)) hI' fun z => ?_
    · rw [hz1]; exact Nat.ne_of_lt (Nat.lt_succ_of_lt (Heap.lt_size q))
    · exact Nat.ne_of_lt (Heap.lt_size q)
    · exact f1 z
end
end Hl

namespace Vl
open PySem PySem.Spec PyProof.Rows L2 Hl

/-! ### values told without addresses -/
inductive D where
  | non
  | bl (b : Bool)
  | int (i : Int)
  | str (z : Str)
  | tup (l : List D)
  | lst (l : List D)
  | obj (c : Str) (fs : List (Str × D))
  | hnd
  | scr (ns : List Int)
  | dct (kvs : List (Key × D))
  | set (ns : List Int)
/-- what stands fixed: the text, what a source of draws is -/
structure Gx where
  K : PySem.W.Frag
  w : World
  mg : Str → Option Value
  DA : Hp → Addr → Prop
  mono : ∀ {H H' : Hp} {a : Addr}, Same H H' → DA H a → DA H' a
/-- a heap in four: the outer part, the shared, the draws', the whole -/
structure Wo where
  F : Hp
  H0 : Hp
  Hd : Hp
  H : Hp
  P : Addr → Prop
structure Wo.Ok (T : Wo) : Prop where
  sF : Same T.F T.H
  s0 : Same T.H0 T.H
  sd : Same T.Hd T.H
  F0 : ∀ {b x}, T.F b = some x → T.H0 b = none
  Fd : ∀ {b x}, T.F b = some x → T.Hd b = none
  zd : ∀ {b x}, T.H0 b = some x → T.Hd b = none
mutual
inductive R (Γ : Gx) (H0 Hd : Hp) : V → D → Prop
  | non : R Γ H0 Hd .non .non
  | bl (b : Bool) : R Γ H0 Hd (.bl b) (.bl b)
  | int (i : Int) : R Γ H0 Hd (.int i) (.int i)
  | str (z : Str) : R Γ H0 Hd (.str z) (.str z)
  | tup {a : Addr} {vs : List V} {l : List D} : SqT Γ.K H0 a vs → RA Γ H0 Hd vs l → R Γ H0 Hd (.ref a) (.tup l)
  | lst {a : Addr} {vs : List V} {l : List D} : H0 a = some (.lst vs) → RA Γ H0 Hd vs l → R Γ H0 Hd (.ref a) (.lst l)
  | obj {a C dx : Addr} {vf : List (Str × V)} {c : Str} {df : List (Str × D)} : H0 a = some (.ins C dx vf) → Γ.mg c = some (.ref C) → Cls Γ.K C → (∀ f v, vf.lookup f = some v → NoAttr Γ.K C f) → RF Γ H0 Hd vf df → R Γ H0 Hd (.ref a) (.obj c df)
  | hnd {a : Addr} : Γ.DA Hd a → R Γ H0 Hd (.ref a) .hnd
  | scr {a : Addr} {ns : List Int} : SqL Γ.K H0 a (ns.map V.int) → R Γ H0 Hd (.ref a) (.scr ns)
  | dct {a : Addr} {vk : List (Key × V)} {dk : List (Key × D)} : H0 a = some (.dK vk) → RK Γ H0 Hd vk dk → R Γ H0 Hd (.ref a) (.dct dk)
  | set {a : Addr} {ns : List Int} {c : Nat} : H0 a = some (SetO Γ.w a (fun j => decide (j ∈ ns)) c) → R Γ H0 Hd (.ref a) (.set ns)
inductive RA (Γ : Gx) (H0 Hd : Hp) : List V → List D → Prop
  | nil : RA Γ H0 Hd [] []
  | cons {v : V} {d : D} {vs : List V} {l : List D} : R Γ H0 Hd v d → RA Γ H0 Hd vs l → RA Γ H0 Hd (v :: vs) (d :: l)
inductive RF (Γ : Gx) (H0 Hd : Hp) : List (Str × V) → List (Str × D) → Prop
  | nil : RF Γ H0 Hd [] []
  | cons {f : Str} {v : V} {d : D} {vs : List (Str × V)} {l : List (Str × D)} : R Γ H0 Hd v d → RF Γ H0 Hd vs l → RF Γ H0 Hd ((f, v) :: vs) ((f, d) :: l)
inductive RK (Γ : Gx) (H0 Hd : Hp) : List (Key × V) → List (Key × D) → Prop
  | nil : RK Γ H0 Hd [] []
  | cons {k : Key} {v : V} {d : D} {vs : List (Key × V)} {l : List (Key × D)} : R Γ H0 Hd v d → RK Γ H0 Hd vs l → RK Γ H0 Hd ((k, v) :: vs) ((k, d) :: l)
end
structure Ext (Γ : Gx) (T T' : Wo) : Prop where
  f : T'.F = T.F
  p : T'.P = T.P
  s0 : Same T.H0 T'.H0
  da : ∀ a, Γ.DA T.Hd a → Γ.DA T'.Hd a
section
variable {Γ : Gx} {T T' T'' : Wo}
theorem Ext.refl : Ext Γ T T := ⟨rfl, rfl, Same.refl _, fun _ h => h⟩
theorem Ext.trans (a : Ext Γ T T') (b : Ext Γ T' T'') : Ext Γ T T'' := ⟨b.f.trans a.f, b.p.trans a.p, a.s0.trans b.s0, fun x h => b.da x (a.da x h)⟩
variable {H0 Hd H0' Hd' : Hp}
mutual
theorem R.mono (e : Same H0 H0') (k : ∀ a, Γ.DA Hd a → Γ.DA Hd' a) : ∀ {v : V} {d : D}, R Γ H0 Hd v d → R Γ H0' Hd' v d
  | _, _, .non => .non
  | _, _, .bl b => .bl b
  | _, _, .int i => .int i
  | _, _, .str z => .str z
  | _, _, .tup h a => .tup (seqT e h) (RA.mono e k a)
  | _, _, .lst h a => .lst (e _ _ h) (RA.mono e k a)
  | _, _, .obj h m c n a => .obj (e _ _ h) m c n (RF.mono e k a)
  | _, _, .hnd h => .hnd (k _ h)
  | _, _, .scr h => .scr (e.seq h)
  | _, _, .dct h a => .dct (e _ _ h) (RK.mono e k a)
  | _, _, .set h => .set (e _ _ h)
theorem RA.mono (e : Same H0 H0') (k : ∀ a, Γ.DA Hd a → Γ.DA Hd' a) : ∀ {vs : List V} {l : List D}, RA Γ H0 Hd vs l → RA Γ H0' Hd' vs l
  | _, _, .nil => .nil
  | _, _, .cons h t => .cons (R.mono e k h) (RA.mono e k t)
theorem RF.mono (e : Same H0 H0') (k : ∀ a, Γ.DA Hd a → Γ.DA Hd' a) : ∀ {vs : List (Str × V)} {l : List (Str × D)}, RF Γ H0 Hd vs l → RF Γ H0' Hd' vs l
  | _, _, .nil => .nil
  | _, _, .cons h t => .cons (R.mono e k h) (RF.mono e k t)
theorem RK.mono (e : Same H0 H0') (k : ∀ a, Γ.DA Hd a → Γ.DA Hd' a) : ∀ {vs : List (Key × V)} {l : List (Key × D)}, RK Γ H0 Hd vs l → RK Γ H0' Hd' vs l
  | _, _, .nil => .nil
  | _, _, .cons h t => .cons (R.mono e k h) (RK.mono e k t)
end
theorem R.ext {v : V} {d : D} (e : Ext Γ T T') (h : R Γ T.H0 T.Hd v d) : R Γ T'.H0 T'.Hd v d := h.mono e.s0 e.da
theorem RA.ext {v : List V} {d : List D} (e : Ext Γ T T') (h : RA Γ T.H0 T.Hd v d) : RA Γ T'.H0 T'.Hd v d := h.mono e.s0 e.da
theorem RA.len : ∀ {vs : List V} {l : List D}, RA Γ H0 Hd vs l → vs.length = l.length
  | _, _, .nil => rfl
  | _, _, .cons _ t => by rw [List.length_cons, List.length_cons, t.len]
theorem RA.get : ∀ {vs : List V} {l : List D} {i : Nat} {d : D}, RA Γ H0 Hd vs l → l[i]? = some d → ∃ v, vs[i]? = some v ∧ R Γ H0 Hd v d
  | _, _, _, _, .nil, h => by simp at h
  | _, _, 0, _, .cons h _, e => by simp at e; subst e; exact ⟨_, rfl, h⟩
  | _, _, i + 1, d, .cons _ t, e => by
    obtain ⟨v, h1, h2⟩ := RA.get (i := i) (d := d) t (by simpa using e)
    exact ⟨v, by simpa using h1, h2⟩
theorem RA.get' : ∀ {vs : List V} {l : List D} {i : Nat} {v : V}, RA Γ H0 Hd vs l → vs[i]? = some v → ∃ d, l[i]? = some d ∧ R Γ H0 Hd v d
  | _, _, _, _, .nil, h => by simp at h
  | _, _, 0, _, .cons h _, e => by simp at e; subst e; exact ⟨_, rfl, h⟩
  | _, _, i + 1, v, .cons _ t, e => by
    obtain ⟨d, h1, h2⟩ := RA.get' (i := i) (v := v) t (by simpa using e)
    exact ⟨d, by simpa using h1, h2⟩
theorem RA.app : ∀ {vs ws : List V} {l m : List D}, RA Γ H0 Hd vs l → RA Γ H0 Hd ws m → RA Γ H0 Hd (vs ++ ws) (l ++ m)
  | _, _, _, _, .nil, h => h
  | _, _, _, _, .cons h t, u => .cons h (t.app u)
theorem RA.set : ∀ {vs : List V} {l : List D} {v : V} {d : D} (i : Nat), RA Γ H0 Hd vs l → R Γ H0 Hd v d → RA Γ H0 Hd (vs.set i v) (l.set i d)
  | _, _, _, _, _, .nil, _ => .nil
  | _, _, _, _, 0, .cons _ t, h => .cons h t
  | _, _, _, _, i + 1, .cons h' t, h => .cons h' (t.set i h)
theorem RA.drop : ∀ {vs : List V} {l : List D} (i : Nat), RA Γ H0 Hd vs l → RA Γ H0 Hd (vs.drop i) (l.drop i)
  | _, _, 0, h => by simpa using h
  | _, _, _ + 1, .nil => by simp; exact .nil
  | _, _, i + 1, .cons _ t => by simpa using t.drop i
theorem RA.take : ∀ {vs : List V} {l : List D} (i : Nat), RA Γ H0 Hd vs l → RA Γ H0 Hd (vs.take i) (l.take i)
  | _, _, 0, _ => by simp; exact .nil
  | _, _, _ + 1, .nil => by simp; exact .nil
  | _, _, i + 1, .cons h t => by simp only [List.take_succ_cons]; exact .cons h (t.take i)
theorem RA.reverse {vs : List V} {l : List D} (h : RA Γ H0 Hd vs l) : RA Γ H0 Hd vs.reverse l.reverse := by
  induction vs generalizing l with
  | nil => cases h; exact .nil
  | cons v vs ih =>
    cases h with
    | cons h t => simp only [List.reverse_cons]; exact (ih t).app (.cons h .nil)
theorem RA.eraseIdx : ∀ {vs : List V} {l : List D} (i : Nat), RA Γ H0 Hd vs l → RA Γ H0 Hd (vs.eraseIdx i) (l.eraseIdx i)
  | _, _, _, .nil => .nil
  | _, _, 0, .cons _ t => t
  | _, _, i + 1, .cons h t => .cons h (t.eraseIdx i)
theorem RF.lookup : ∀ {vs : List (Str × V)} {l : List (Str × D)} {f : Str} {d : D}, RF Γ H0 Hd vs l → l.lookup f = some d → ∃ v, vs.lookup f = some v ∧ R Γ H0 Hd v d
  | _, _, _, _, .nil, h => by simp at h
  | _, _, f, d, .cons (f := g) h t, e => by
    simp only [List.lookup] at e ⊢
    cases hfg : f == g with
    | true => rw [hfg] at e; cases e; exact ⟨_, rfl, h⟩
    | false => rw [hfg] at e; exact t.lookup e
end

/-! ### slots -/
inductive Cell where
  | no
  | val (d : D)
  | own (l : List D)
  | pin (p : Addr) (l : List D)
  | obj (p : Addr) (c : Str) (fs : List (Str × D))
  | dic (kvs : List (Key × D))
/-- one's own, it may be changed -/
def Cell.priv : Cell → Bool
  | .own _ => true
  | .obj _ _ _ => true
  | .dic _ => true
  | .pin _ _ => true
  | _ => false
abbrev Vn := List Cell
def CellR (Γ : Gx) (T : Wo) (s : Option V) : Cell → Prop
  | .no => True
  | .val d => ∃ v, s = some v ∧ R Γ T.H0 T.Hd v d
  | .own l => ∃ p vs, s = some (.ref p) ∧ T.H p = some (.lst vs) ∧ RA Γ T.H0 T.Hd vs l ∧ T.F p = none ∧ T.H0 p = none ∧ T.Hd p = none
  | .pin p l => ∃ vs, s = some (.ref p) ∧ T.P p ∧ T.F p = some (.lst vs) ∧ RA Γ T.H0 T.Hd vs l
  | .obj p c fs => ∃ C dx vf, s = some (.ref p) ∧ T.H p = some (.ins C dx vf) ∧ Γ.mg c = some (.ref C) ∧ Cls Γ.K C ∧ (∀ f v, vf.lookup f = some v → NoAttr Γ.K C f) ∧ RF Γ T.H0 T.Hd vf fs ∧ T.F p = none ∧ T.H0 p = none ∧ T.Hd p = none
  | .dic l => ∃ p vs, s = some (.ref p) ∧ T.H p = some (.dK vs) ∧ RK Γ T.H0 T.Hd vs l ∧ T.F p = none ∧ T.H0 p = none ∧ T.Hd p = none
structure Sv (Γ : Gx) (T : Wo) (σ : L2.St) (ρ : Vn) : Prop where
  ok : T.Ok
  len : σ.length = ρ.length
  cell : ∀ (i : Nat) (c : Cell), ρ[i]? = some c → ∃ s, σ[i]? = some s ∧ CellR Γ T s c
  dist : ∀ (i j : Nat) (p : Addr) (c c' : Cell), ρ[i]? = some c → ρ[j]? = some c' → c.priv = true → c'.priv = true → σ[i]? = some (some (.ref p)) → σ[j]? = some (some (.ref p)) → i = j
/-- the heap grows -/
structure Gr (T T' : Wo) : Prop where
  ok : T'.Ok
  f : T'.F = T.F
  p : T'.P = T.P
  d : T'.Hd = T.Hd
  s : Same T.H T'.H
  s0 : Same T.H0 T'.H0
  ns : ∀ {b x}, T.H b = some x → T.H0 b = none → T'.H0 b = none
section
variable {Γ : Gx} {T T' T'' : Wo} {σ : L2.St} {ρ : Vn}
theorem Gr.refl (h : T.Ok) : Gr T T := ⟨h, rfl, rfl, rfl, Same.refl _, Same.refl _, fun _ h => h⟩
theorem Gr.ext (g : Gr T T') : Ext Γ T T' := ⟨g.f, g.p, g.s0, fun a h => by rw [g.d]; exact h⟩
theorem Gr.trans (a : Gr T T') (b : Gr T' T'') : Gr T T'' := ⟨b.ok, b.f.trans a.f, b.p.trans a.p, b.d.trans a.d, a.s.trans b.s, a.s0.trans b.s0, fun h1 h2 => b.ns (a.s _ _ h1) (a.ns h1 h2)⟩
theorem Sv.grow (h : Sv Γ T σ ρ) (g : Gr T T') : Sv Γ T' σ ρ := by
  refine ⟨g.ok, h.len, fun i c e => ?_, h.dist⟩
  obtain ⟨s, e1, r⟩ := h.cell i c e
  refine ⟨s, e1, ?_⟩
  cases c with
  | no => trivial
  | val d => obtain ⟨v, e2, r⟩ := r; exact ⟨v, e2, r.ext g.ext⟩
  | own l =>
    obtain ⟨p, vs, e2, e3, r, n1, n2, n3⟩ := r
    exact ⟨p, vs, e2, g.s _ _ e3, r.ext g.ext, by rw [g.f]; exact n1, g.ns e3 n2, by rw [g.d]; exact n3⟩
  | pin p l =>
    obtain ⟨vs, e2, e0, e3, r⟩ := r
    exact ⟨vs, e2, by rw [g.p]; exact e0, by rw [g.f]; exact e3, r.ext g.ext⟩
  | obj p c fs =>
    obtain ⟨C, dx, vf, e2, e3, m, cl, na, r, n1, n2, n3⟩ := r
    exact ⟨C, dx, vf, e2, g.s _ _ e3, m, cl, na, r.mono g.s0 g.ext.da, by rw [g.f]; exact n1, g.ns e3 n2, by rw [g.d]; exact n3⟩
  | dic l =>
    obtain ⟨p, vs, e2, e3, r, n1, n2, n3⟩ := r
    exact ⟨p, vs, e2, g.s _ _ e3, r.mono g.s0 g.ext.da, by rw [g.f]; exact n1, g.ns e3 n2, by rw [g.d]; exact n3⟩
/-- a new shared object -/
theorem Gr.new {p : Addr} {o : HO} (h : T.Ok) (n : T.H p = none) : Gr T ⟨T.F, upd T.H0 p o, T.Hd, upd T.H p o, T.P⟩ := by
  have nF : ∀ {x}, T.F p = some x → False := fun e => by have := h.sF _ _ e; rw [n] at this; cases this
  have n0 : T.H0 p = none := by cases e : T.H0 p with | none => rfl | some x => have := h.s0 _ _ e; rw [n] at this; cases this
  have nd : T.Hd p = none := by cases e : T.Hd p with | none => rfl | some x => have := h.sd _ _ e; rw [n] at this; cases this
  refine ⟨⟨?_, ?_, ?_, ?_, h.Fd, ?_⟩, rfl, rfl, rfl, same_new n, same_new n0, ?_⟩
  · exact fun b x e => same_new n _ _ (h.sF _ _ e)
  · intro b x e
    dsimp only at e ⊢
    by_cases hb : b = p
    · subst hb; rw [upd_same] at e ⊢; exact e
    · rw [upd_ne hb] at e ⊢; exact h.s0 _ _ e
  · exact fun b x e => same_new n _ _ (h.sd _ _ e)
  · intro b x e
    have hb : b ≠ p := fun z => nF (by rw [← z]; exact e)
    show upd T.H0 p o b = none
    rw [upd_ne hb]
    exact h.F0 e
  · intro b x e
    dsimp only at e ⊢
    by_cases hb : b = p
    · subst hb; exact nd
    · rw [upd_ne hb] at e; exact h.zd e
  · intro b x e n'
    have hb : b ≠ p := fun z => by rw [z, n] at e; cases e
    show upd T.H0 p o b = none
    rw [upd_ne hb]; exact n'
/-- a new object, still one's own -/
theorem Gr.priv {p : Addr} {o : HO} (h : T.Ok) (n : T.H p = none) : Gr T ⟨T.F, T.H0, T.Hd, upd T.H p o, T.P⟩ :=
  ⟨⟨fun b x e => same_new n _ _ (h.sF _ _ e), fun b x e => same_new n _ _ (h.s0 _ _ e), fun b x e => same_new n _ _ (h.sd _ _ e), h.F0, h.Fd, h.zd⟩, rfl, rfl, rfl, same_new n, Same.refl _, fun _ h => h⟩
theorem none_of_le {A B : Hp} {p : Addr} (h : Same A B) (n : B p = none) : A p = none := by
  cases e : A p with
  | none => rfl
  | some x => have := h _ _ e; rw [n] at this; cases this
/-- a slot is stored -/
theorem set_at {α : Type} {l : List α} {i j : Nat} {x c : α} (h : (l.set i x)[j]? = some c) : (i = j ∧ i < l.length ∧ c = x) ∨ (i ≠ j ∧ l[j]? = some c) := by
  by_cases hj : i = j
  · subst hj
    by_cases hl : i < l.length
    · rw [List.getElem?_set_self hl] at h; cases h; exact .inl ⟨rfl, hl, rfl⟩
    · rw [List.getElem?_eq_none (by simpa using hl)] at h; cases h
  · rw [List.getElem?_set_ne hj] at h; exact .inr ⟨hj, h⟩
theorem Sv.set {i : Nat} {v : V} {c : Cell} (h : Sv Γ T σ ρ) (r : CellR Γ T (some v) c) (hd : c.priv = true → ∀ j p c', v = .ref p → ρ[j]? = some c' → c'.priv = true → σ[j]? = some (some (.ref p)) → j = i) : Sv Γ T (σ.set i (some v)) (ρ.set i c) := by
  refine ⟨h.ok, by rw [List.length_set, List.length_set, h.len], fun j c' e => ?_, fun j k p c1 c2 e1 e2 p1 p2 e3 e4 => ?_⟩
  · rcases set_at e with ⟨rfl, hl, rfl⟩ | ⟨hj, e⟩
    · exact ⟨some v, List.getElem?_set_self (by rw [h.len]; exact hl), r⟩
    · rw [List.getElem?_set_ne hj]
      exact h.cell j c' e
  · rcases set_at e1 with ⟨rfl, hl, rfl⟩ | ⟨hj, f1⟩ <;> rcases set_at e2 with ⟨rfl, hl', rfl⟩ | ⟨hk, f2⟩
    · rfl
    · rw [List.getElem?_set_self (by rw [h.len]; exact hl)] at e3
      rw [List.getElem?_set_ne hk] at e4
      cases e3
      exact (hd p1 k p _ rfl f2 p2 e4).symm
    · rw [List.getElem?_set_self (by rw [h.len]; exact hl')] at e4
      rw [List.getElem?_set_ne hj] at e3
      cases e4
      exact hd p2 j p _ rfl f1 p1 e3
    · rw [List.getElem?_set_ne hj] at e3
      rw [List.getElem?_set_ne hk] at e4
      exact h.dist j k p c1 c2 f1 f2 p1 p2 e3 e4
theorem Sv.setVal {i : Nat} {v : V} {d : D} (h : Sv Γ T σ ρ) (r : R Γ T.H0 T.Hd v d) : Sv Γ T (σ.set i (some v)) (ρ.set i (.val d)) :=
  h.set ⟨v, rfl, r⟩ fun e => nomatch e
/-- a slot is known otherwise -/
theorem Sv.re {i : Nat} {c : Cell} (h : Sv Γ T σ ρ) (r : ∀ s, σ[i]? = some s → i < ρ.length → CellR Γ T s c) (hp : c.priv = true → ∃ c', ρ[i]? = some c' ∧ c'.priv = true) : Sv Γ T σ (ρ.set i c) := by
  refine ⟨h.ok, by rw [List.length_set, h.len], fun j c e => ?_, fun j k p c1 c2 e1 e2 p1 p2 e3 e4 => ?_⟩
  · rcases set_at e with ⟨rfl, hl, rfl⟩ | ⟨hj, e⟩
    · have e' := List.getElem?_eq_getElem (l := σ) (i := i) (by rw [h.len]; exact hl)
      exact ⟨_, e', r _ e' hl⟩
    · exact h.cell j c e
  · have f : ∀ {j : Nat} {c1 : Cell}, (ρ.set i c)[j]? = some c1 → c1.priv = true → ∃ c', ρ[j]? = some c' ∧ c'.priv = true := fun {j c1} e p => by
      rcases set_at e with ⟨rfl, hl, rfl⟩ | ⟨hj, e⟩
      · exact hp p
      · exact ⟨_, e, p⟩
    obtain ⟨c1', e1, p1⟩ := f e1 p1
    obtain ⟨c2', e2, p2⟩ := f e2 p2
    exact h.dist j k p _ _ e1 e2 p1 p2 e3 e4
theorem Sv.forget {i : Nat} (h : Sv Γ T σ ρ) : Sv Γ T σ (ρ.set i .no) := h.re (fun _ _ _ => trivial) fun e => nomatch e
end

/-! ### judgements -/
abbrev WE := Vn → (D → Vn → Prop) → Prop
abbrev WF := Vn → (List D → Vn → Prop) → Prop
abbrev WT := Vn → (Bool → Vn → Prop) → Prop
/-- an operand: a value, or what stands in a slot -/
inductive AI where
  | d (d : D)
  | sl (i : Nat)
abbrev WO := Vn → (AI → Vn → Prop) → Prop
abbrev WA := Vn → (List AI → Vn → Prop) → Prop
structure EV where
  nx : Vn → Prop
  rt : D → Prop
  bk : Vn → Prop := fun _ => False
  ct : Vn → Prop := fun _ => False
abbrev WS := EV → Vn → Prop
def AR (Γ : Gx) (T : Wo) (σ : L2.St) (v : V) : AI → Prop
  | .d d => R Γ T.H0 T.Hd v d
  | .sl i => σ[i]? = some (some v)
inductive ARs (Γ : Gx) (T : Wo) (σ : L2.St) : List V → List AI → Prop
  | nil : ARs Γ T σ [] []
  | cons {v : V} {a : AI} {vs : List V} {l : List AI} : AR Γ T σ v a → ARs Γ T σ vs l → ARs Γ T σ (v :: vs) (a :: l)
structure SE (Γ : Gx) (t : TE) (w : WE) : Prop where
  h : ∀ {T : Wo} {σ : L2.St} {ρ : Vn} {Q : D → Vn → Prop} {Q' : VK}, Sv Γ T σ ρ → w ρ Q → (∀ v T' d ρ', Sv Γ T' σ ρ' → Ext Γ T T' → R Γ T'.H0 T'.Hd v d → Q d ρ' → Q' v T'.H) → t σ T.H Q'
/-- a new list -/
structure SF (Γ : Gx) (t : TE) (w : WF) : Prop where
  h : ∀ {T : Wo} {σ : L2.St} {ρ : Vn} {Q : List D → Vn → Prop} {Q' : VK}, Sv Γ T σ ρ → w ρ Q → (∀ p vs T' l ρ', Sv Γ T' σ ρ' → Ext Γ T T' → T'.H p = some (.lst vs) → T'.F p = none → T'.H0 p = none → T'.Hd p = none → (∀ (j : Nat) (c : Cell), ρ'[j]? = some c → c.priv = true → σ[j]? ≠ some (some (.ref p))) → RA Γ T'.H0 T'.Hd vs l → Q l ρ' → Q' (.ref p) T'.H) → t σ T.H Q'
structure ST (Γ : Gx) (t : TT) (w : WT) : Prop where
  h : ∀ {T : Wo} {σ : L2.St} {ρ : Vn} {Q : Bool → Vn → Prop} {Q' : Bool → Hp → Prop}, Sv Γ T σ ρ → w ρ Q → (∀ b T' ρ', Sv Γ T' σ ρ' → Ext Γ T T' → Q b ρ' → Q' b T'.H) → t σ T.H Q'
structure SO (Γ : Gx) (t : TE) (w : WO) : Prop where
  h : ∀ {T : Wo} {σ : L2.St} {ρ : Vn} {Q : AI → Vn → Prop} {Q' : VK}, Sv Γ T σ ρ → w ρ Q → (∀ v T' a ρ', Sv Γ T' σ ρ' → Ext Γ T T' → AR Γ T' σ v a → Q a ρ' → Q' v T'.H) → t σ T.H Q'
structure SA (Γ : Gx) (t : TA) (w : WA) : Prop where
  h : ∀ {T : Wo} {σ : L2.St} {ρ : Vn} {Q : List AI → Vn → Prop} {Q' : List V → Hp → Prop}, Sv Γ T σ ρ → w ρ Q → (∀ vs T' as ρ', Sv Γ T' σ ρ' → Ext Γ T T' → ARs Γ T' σ vs as → Q as ρ' → Q' vs T'.H) → t σ T.H Q'
structure SS (Γ : Gx) (t : TS) (w : WS) : Prop where
  h : ∀ {T : Wo} {σ : L2.St} {ρ : Vn} {D : EV} {D' : Ends}, Sv Γ T σ ρ → w D ρ →
    (∀ T' σ' ρ', Sv Γ T' σ' ρ' → Ext Γ T T' → D.nx ρ' → D'.nx σ' T'.H) →
    (∀ T' v d, T'.Ok → Ext Γ T T' → R Γ T'.H0 T'.Hd v d → D.rt d → D'.rt v T'.H) →
    (∀ T' σ' ρ', Sv Γ T' σ' ρ' → Ext Γ T T' → D.bk ρ' → D'.bk σ' T'.H) →
    (∀ T' σ' ρ', Sv Γ T' σ' ρ' → Ext Γ T T' → D.ct ρ' → D'.ct σ' T'.H) → t D' σ T.H
structure VE (Γ : Gx) (X : Cx) (e : Expr) (t : TE) (w : WE) : Prop where
  pe : PE X e t
  se : SE Γ t w
structure VF (Γ : Gx) (X : Cx) (e : Expr) (t : TE) (w : WF) : Prop where
  pe : PE X e t
  se : SF Γ t w
structure VO (Γ : Gx) (X : Cx) (e : Expr) (t : TE) (w : WO) : Prop where
  pe : PE X e t
  se : SO Γ t w
structure VA (Γ : Gx) (X : Cx) (es : List Expr) (t : TA) (w : WA) : Prop where
  pe : PA X es t
  se : SA Γ t w
structure VT (Γ : Gx) (X : Cx) (e : Expr) (t : TT) (w : WT) : Prop where
  pe : PT X e t
  se : ST Γ t w
structure VW (Γ : Gx) (X : Cx) (e : Expr) (t : TT) (w : WT) : Prop where
  pe : PW X e t
  se : ST Γ t w
structure VS (Γ : Gx) (X : Cx) (s : Stmt) (t : TS) (w : WS) : Prop where
  pe : PS X s t
  se : SS Γ t w
structure VB (Γ : Gx) (X : Cx) (s : List Stmt) (t : TS) (w : WS) : Prop where
  pe : PSs X s t
  se : SS Γ t w

/-! ### names, constants -/
@[simp] def cVal : Cell → (D → Prop) → Prop
  | .val d, k => k d
  | _, _ => False
@[simp] def cRd : Cell → (D → Prop) → Prop
  | .val d, k => k d
  | .own l, k => k (.lst l)
  | .pin _ l, k => k (.lst l)
  | .dic l, k => k (.dct l)
  | _, _ => False
@[simp] def cOwn : Cell → (List D → Prop) → Prop
  | .own l, k => k l
  | _, _ => False
@[simp] def wVar (i : Nat) : WE := fun ρ Q => cVal (ρ.getD i .no) fun d => Q d ρ
@[simp] def wC (d : D) : WE := fun ρ Q => Q d ρ
@[simp] def wSl (i : Nat) : WO := fun ρ Q => cRd (ρ.getD i .no) fun _ => Q (.sl i) ρ
@[simp] def wOf (w : WE) : WO := fun ρ Q => w ρ fun d ρ' => Q (.d d) ρ'
/-- an operand's value -/
@[simp] def rs1 (ρ : Vn) : AI → (D → Prop) → Prop
  | .d d, k => k d
  | .sl i, k => cRd (ρ.getD i .no) k
@[simp] def rsN (ρ : Vn) : List AI → (List D → Prop) → Prop
  | [], k => k []
  | a :: r, k => rs1 ρ a fun d => rsN ρ r fun ds => k (d :: ds)
section
variable {Γ : Gx} {T : Wo} {σ : L2.St} {ρ : Vn} {i : Nat}
theorem getD_of {c : Cell} (h : ρ.getD i .no = c) (hc : c ≠ .no) : ρ[i]? = some c := by
  rw [List.getD_eq_getElem?_getD] at h
  cases e : ρ[i]? with
  | none => rw [e] at h; exact absurd h.symm hc
  | some x => rw [e] at h; exact congrArg some h
theorem cVal_of {c : Cell} {k : D → Prop} (h : cVal c k) : ∃ d, c = .val d ∧ k d := by
  cases c with
  | val d => exact ⟨d, rfl, h⟩
  | _ => exact h.elim
@[simp] def cDic : Cell → (List (Key × D) → Prop) → Prop
  | .dic l, k => k l
  | _, _ => False
theorem cDic_of {c : Cell} {k : List (Key × D) → Prop} (h : cDic c k) : ∃ d, c = .dic d ∧ k d := by
  cases c with
  | dic d => exact ⟨d, rfl, h⟩
  | _ => exact h.elim
@[simp] def cObj : Cell → (Addr → Str → List (Str × D) → Prop) → Prop
  | .obj p c l, k => k p c l
  | _, _ => False
theorem cObj_of {c : Cell} {k : Addr → Str → List (Str × D) → Prop} (h : cObj c k) : ∃ p n d, c = .obj p n d ∧ k p n d := by
  cases c with
  | obj p n d => exact ⟨p, n, d, rfl, h⟩
  | _ => exact h.elim
theorem cOwn_of {c : Cell} {k : List D → Prop} (h : cOwn c k) : ∃ d, c = .own d ∧ k d := by
  cases c with
  | own d => exact ⟨d, rfl, h⟩
  | _ => exact h.elim
/-- a value as an operand reads it: shared, or a list that stands by itself with shared items -/
inductive RO (Γ : Gx) (T : Wo) : V → D → Prop
  | sh {v d} : R Γ T.H0 T.Hd v d → RO Γ T v d
  | li {p vs l} : T.H p = some (.lst vs) → RA Γ T.H0 T.Hd vs l → RO Γ T (.ref p) (.lst l)
  | di {p vs l} : T.H p = some (.dK vs) → RK Γ T.H0 T.Hd vs l → RO Γ T (.ref p) (.dct l)
inductive ROs (Γ : Gx) (T : Wo) : List V → List D → Prop
  | nil : ROs Γ T [] []
  | cons {v d vs l} : RO Γ T v d → ROs Γ T vs l → ROs Γ T (v :: vs) (d :: l)
theorem Sv.rd {s : V} {k : D → Prop} (S : Sv Γ T σ ρ) (hs : σ[i]? = some (some s)) (h : cRd (ρ.getD i .no) k) : ∃ d, RO Γ T s d ∧ k d := by
  cases e : ρ.getD i .no with
  | no => rw [e] at h; exact h.elim
  | val d =>
    rw [e] at h
    obtain ⟨s', e1, v, e2, r⟩ := S.cell i _ (getD_of e (by simp))
    rw [hs] at e1; cases e1; cases e2
    exact ⟨d, .sh r, h⟩
  | own l =>
    rw [e] at h
    obtain ⟨s', e1, p, vs, e2, hp, r, _⟩ := S.cell i _ (getD_of e (by simp))
    rw [hs] at e1; cases e1; cases e2
    exact ⟨_, .li hp r, h⟩
  | pin p l =>
    rw [e] at h
    obtain ⟨s', e1, vs, e2, _, hp, r⟩ := S.cell i _ (getD_of e (by simp))
    rw [hs] at e1; cases e1; cases e2
    exact ⟨_, .li (S.ok.sF _ _ hp) r, h⟩
  | dic l =>
    rw [e] at h
    obtain ⟨s', e1, p, vs, e2, hp, r, _⟩ := S.cell i _ (getD_of e (by simp))
    rw [hs] at e1; cases e1; cases e2
    exact ⟨_, .di hp r, h⟩
  | _ => rw [e] at h; exact h.elim
theorem Sv.rd' {k : D → Prop} (S : Sv Γ T σ ρ) (h : cRd (ρ.getD i .no) k) : ∃ s, σ[i]? = some (some s) := by
  cases e : ρ.getD i .no with
  | no => rw [e] at h; exact h.elim
  | val d => obtain ⟨s', e1, v, e2, r⟩ := S.cell i _ (getD_of e (by simp)); exact ⟨v, by rw [e1, e2]⟩
  | own l => obtain ⟨s', e1, p, vs, e2, _⟩ := S.cell i _ (getD_of e (by simp)); exact ⟨_, by rw [e1, e2]⟩
  | pin p l => obtain ⟨s', e1, vs, e2, _⟩ := S.cell i _ (getD_of e (by simp)); exact ⟨_, by rw [e1, e2]⟩
  | dic l => obtain ⟨s', e1, p, vs, e2, _⟩ := S.cell i _ (getD_of e (by simp)); exact ⟨_, by rw [e1, e2]⟩
  | _ => rw [e] at h; exact h.elim
theorem Sv.rs1 {v : V} {a : AI} {k : D → Prop} (S : Sv Γ T σ ρ) (ha : AR Γ T σ v a) (h : rs1 ρ a k) : ∃ d, RO Γ T v d ∧ k d := by
  cases a with
  | d d => exact ⟨d, .sh ha, h⟩
  | sl i => exact S.rd ha h
theorem Sv.rsN : ∀ {vs : List V} {as : List AI} {k : List D → Prop} (S : Sv Γ T σ ρ) (ha : ARs Γ T σ vs as) (h : rsN ρ as k), ∃ ds, ROs Γ T vs ds ∧ k ds
  | _, _, _, S, .nil, h => ⟨[], .nil, h⟩
  | _, _, _, S, .cons a r, h => by
    obtain ⟨d, r1, h⟩ := S.rs1 a h
    obtain ⟨ds, r2, h⟩ := Sv.rsN S r h
    exact ⟨d :: ds, .cons r1 r2, h⟩
theorem AR.ext {T' : Wo} {v : V} {a : AI} (h : AR Γ T σ v a) (e : Ext Γ T T') : AR Γ T' σ v a := by
  cases a with
  | d d => exact R.ext e h
  | sl i => exact h
variable {X : Cx} {e : Expr} {x : Str} {p : Pos}
theorem ve_var (hp : PE X e (tVar i)) : VE Γ X e (tVar i) (wVar i) := ⟨hp, ⟨fun {T σ ρ Q Q'} S h q => by
  obtain ⟨d, e, h⟩ := cVal_of h
  obtain ⟨s, e1, v, e2, r⟩ := S.cell i _ (getD_of e (by simp))
  exact ⟨v, by rw [e1, e2], q v T d ρ S .refl r h⟩⟩⟩
theorem vo_var (hp : PE X e (tVar i)) : VO Γ X e (tVar i) (wSl i) := ⟨hp, ⟨fun {T σ ρ Q Q'} S h q => by
  obtain ⟨s, hs⟩ := S.rd' h
  obtain ⟨d, _, h⟩ := S.rd hs h
  exact ⟨s, hs, q s T (.sl i) ρ S .refl hs h⟩⟩⟩
theorem vo_of {t : TE} {w : WE} (h : VE Γ X e t w) : VO Γ X e t (wOf w) := ⟨h.pe, ⟨fun S hw q => h.se.h S hw fun v T' d ρ' S' e' r' z => q v T' (.d d) ρ' S' e' r' z⟩⟩
theorem ve_c {v : V} {d : D} (hp : PE X e (tC v)) (r : ∀ H0 Hd, R Γ H0 Hd v d) : VE Γ X e (tC v) (wC d) := ⟨hp, ⟨fun {T σ ρ Q Q'} S h q => q v T d ρ S .refl (r _ _) h⟩⟩
theorem ve_int {i : Int} (hp : PE X e (tC (.int i))) : VE Γ X e (tC (.int i)) (wC (.int i)) := ve_c hp fun _ _ => .int i
theorem ve_bl {i : Bool} (hp : PE X e (tC (.bl i))) : VE Γ X e (tC (.bl i)) (wC (.bl i)) := ve_c hp fun _ _ => .bl i
theorem ve_str {i : Str} (hp : PE X e (tC (.str i))) : VE Γ X e (tC (.str i)) (wC (.str i)) := ve_c hp fun _ _ => .str i
theorem ve_non (hp : PE X e (tC .non)) : VE Γ X e (tC .non) (wC .non) := ve_c hp fun _ _ => .non
end
end Vl

namespace Vl
open PySem PySem.Spec PyProof.Rows L2 Hl

/-! ### operators by values -/
abbrev G1 := D → (D → Prop) → Prop
abbrev G2 := D → D → (D → Prop) → Prop
abbrev GN := List D → (D → Prop) → Prop
abbrev F2 := D → D → (List D → Prop) → Prop
abbrev FN := List D → (List D → Prop) → Prop
structure OS (Γ : Gx) (r : R2) (g : G2) : Prop where
  h : ∀ {T : Wo} {x y : V} {a b : D} {Q : D → Prop} {Q' : VK}, T.Ok → RO Γ T x a → RO Γ T y b → g a b Q → (∀ v T' d, Gr T T' → R Γ T'.H0 T'.Hd v d → Q d → Q' v T'.H) → r x y T.H Q'
structure OSF (Γ : Gx) (r : R2) (g : F2) : Prop where
  h : ∀ {T : Wo} {x y : V} {a b : D} {Q : List D → Prop} {Q' : VK}, T.Ok → RO Γ T x a → RO Γ T y b → g a b Q → (∀ p vs l, T.H p = none → RA Γ T.H0 T.Hd vs l → Q l → Q' (.ref p) (upd T.H p (.lst vs))) → r x y T.H Q'
structure CS (Γ : Gx) (r : List V → Hp → VK → Prop) (g : GN) : Prop where
  h : ∀ {T : Wo} {xs : List V} {as : List D} {Q : D → Prop} {Q' : VK}, T.Ok → ROs Γ T xs as → g as Q → (∀ v T' d, Gr T T' → R Γ T'.H0 T'.Hd v d → Q d → Q' v T'.H) → r xs T.H Q'
structure CSF (Γ : Gx) (r : List V → Hp → VK → Prop) (g : FN) : Prop where
  h : ∀ {T : Wo} {xs : List V} {as : List D} {Q : List D → Prop} {Q' : VK}, T.Ok → ROs Γ T xs as → g as Q → (∀ p vs l, T.H p = none → RA Γ T.H0 T.Hd vs l → Q l → Q' (.ref p) (upd T.H p (.lst vs))) → r xs T.H Q'
theorem opr_or {X : Cx} {f : Value → Value → Sem Value} {r r' : R2} (h : OpR X f r) (h' : OpR X f r') : OpR X f (fun x y H Q => r x y H Q ∨ r' x y H Q) :=
  fun pins s σ H x y v u Q I rx ry q => q.elim (h pins s σ H x y v u Q I rx ry) (h' pins s σ H x y v u Q I rx ry)
theorem cr_or {X : Cx} {f : Value} {r r' : List V → Hp → VK → Prop} (h : CallR X f r) (h' : CallR X f r') : CallR X f (fun x H Q => r x H Q ∨ r' x H Q) :=
  fun pins s σ H x us Q I rx q => Or.elim q (h pins s σ H x us Q I rx) (h' pins s σ H x us Q I rx)
section
variable {Γ : Gx} {T : Wo} {v : V}
theorem RO.non (h : RO Γ T v .non) : v = .non := by
  cases h with
  | sh h => cases h; rfl
theorem RO.bl {b : Bool} (h : RO Γ T v (.bl b)) : v = .bl b := by
  cases h with
  | sh h => cases h; rfl
theorem RO.int {b : Int} (h : RO Γ T v (.int b)) : v = .int b := by
  cases h with
  | sh h => cases h; rfl
theorem RO.str {b : Str} (h : RO Γ T v (.str b)) : v = .str b := by
  cases h with
  | sh h => cases h; rfl
theorem RO.tup {l : List D} (ok : T.Ok) (h : RO Γ T v (.tup l)) : ∃ a vs, v = .ref a ∧ SqT Γ.K T.H a vs ∧ RA Γ T.H0 T.Hd vs l := by
  cases h with
  | sh h =>
    cases h with
    | tup h a => exact ⟨_, _, rfl, seqT ok.s0 h, a⟩
theorem RO.lst {l : List D} (ok : T.Ok) (h : RO Γ T v (.lst l)) : ∃ a vs, v = .ref a ∧ T.H a = some (.lst vs) ∧ RA Γ T.H0 T.Hd vs l := by
  cases h with
  | sh h =>
    cases h with
    | lst h a => exact ⟨_, _, rfl, ok.s0 _ _ h, a⟩
  | li h a => exact ⟨_, _, rfl, h, a⟩
theorem RO.isNon {d : D} (h : RO Γ T v d) : v = .non ↔ d = .non := by
  cases h with
  | sh h => cases h <;> simp
  | li h a => simp
  | di h a => simp
theorem RO.dct {l : List (Key × D)} (ok : T.Ok) (h : RO Γ T v (.dct l)) : ∃ a vs, v = .ref a ∧ T.H a = some (.dK vs) ∧ RK Γ T.H0 T.Hd vs l := by
  cases h with
  | sh h =>
    cases h with
    | dct h a => exact ⟨_, _, rfl, ok.s0 _ _ h, a⟩
  | di h a => exact ⟨_, _, rfl, h, a⟩
theorem ROs.one {xs : List V} {d : D} (h : ROs Γ T xs [d]) : ∃ v, xs = [v] ∧ RO Γ T v d := by
  cases h with
  | cons h t => cases t; exact ⟨_, rfl, h⟩
theorem ROs.two {xs : List V} {d e : D} (h : ROs Γ T xs [d, e]) : ∃ v u, xs = [v, u] ∧ RO Γ T v d ∧ RO Γ T u e := by
  cases h with
  | cons h t =>
    obtain ⟨u, rfl, r⟩ := t.one
    exact ⟨_, _, rfl, h, r⟩
theorem ROs.three {xs : List V} {d e f : D} (h : ROs Γ T xs [d, e, f]) : ∃ v u w, xs = [v, u, w] ∧ RO Γ T v d ∧ RO Γ T u e ∧ RO Γ T w f := by
  cases h with
  | cons h t =>
    obtain ⟨u, w, rfl, r⟩ := t.two
    exact ⟨_, _, _, rfl, h, r⟩
theorem gr_sc {T : Wo} {Q' : VK} {d : D} {v : V} {Q : D → Prop} (ok : T.Ok) (q : ∀ v T' d, Gr T T' → R Γ T'.H0 T'.Hd v d → Q d → Q' v T'.H) (r : R Γ T.H0 T.Hd v d) (h : Q d) : Q' v T.H := q v T d (.refl ok) r h
theorem gr_new {T : Wo} {Q' : VK} {d : D} {p : Addr} {o : HO} {Q : D → Prop} (ok : T.Ok) (q : ∀ v T' d, Gr T T' → R Γ T'.H0 T'.Hd v d → Q d → Q' v T'.H) (n : T.H p = none) (r : R Γ (upd T.H0 p o) T.Hd (.ref p) d) (h : Q d) : Q' (.ref p) (upd T.H p o) := q _ _ d (Gr.new ok n) r h
theorem RA.newer {T : Wo} {p : Addr} {o : HO} {vs : List V} {l : List D} (ok : T.Ok) (n : T.H p = none) (h : RA Γ T.H0 T.Hd vs l) : RA Γ (upd T.H0 p o) T.Hd vs l := h.mono (same_new (none_of_le ok.s0 n)) fun _ h => h
theorem r_tup {T : Wo} {p : Addr} {vs : List V} {l : List D} (ok : T.Ok) (n : T.H p = none) (h : RA Γ T.H0 T.Hd vs l) : R Γ (upd T.H0 p (.tup vs)) T.Hd (.ref p) (.tup l) := .tup (SqT.of upd_same) (h.newer ok n)
theorem r_lst {T : Wo} {p : Addr} {vs : List V} {l : List D} (ok : T.Ok) (n : T.H p = none) (h : RA Γ T.H0 T.Hd vs l) : R Γ (upd T.H0 p (.lst vs)) T.Hd (.ref p) (.lst l) := .lst upd_same (h.newer ok n)
end

/-! ### numbers -/
@[simp] def gI (f : Int → Int → Int) : G2
  | .int i, .int j, k => k (.int (f i j))
  | _, _, _ => False
@[simp] def gIc (C : Int → Int → Prop) (f : Int → Int → Int) : G2
  | .int i, .int j, k => C i j ∧ k (.int (f i j))
  | _, _, _ => False
@[simp] def gB (f : Int → Int → Bool) : G2
  | .int i, .int j, k => k (.bl (f i j))
  | _, _, _ => False
section
variable {Γ : Gx}
theorem os_I {f : Int → Int → Int} : OS Γ (rI0 fun i j => .int (f i j)) (gI f) := ⟨fun {T x y a b Q Q'} ok rx ry h q => by
  cases a <;> cases b <;> first | exact h.elim | skip
  obtain rfl := rx.int
  obtain rfl := ry.int
  exact ⟨_, _, rfl, rfl, gr_sc ok q (.int _) h⟩⟩
theorem os_Ic {C : Int → Int → Prop} {f : Int → Int → Int} : OS Γ (rI C fun i j => .int (f i j)) (gIc C f) := ⟨fun {T x y a b Q Q'} ok rx ry h q => by
  cases a <;> cases b <;> first | exact h.elim | skip
  obtain rfl := rx.int
  obtain rfl := ry.int
  exact ⟨_, _, rfl, rfl, h.1, gr_sc ok q (.int _) h.2⟩⟩
theorem os_B {f : Int → Int → Bool} : OS Γ (rI0 fun i j => .bl (f i j)) (gB f) := ⟨fun {T x y a b Q Q'} ok rx ry h q => by
  cases a <;> cases b <;> first | exact h.elim | skip
  obtain rfl := rx.int
  obtain rfl := ry.int
  exact ⟨_, _, rfl, rfl, gr_sc ok q (.bl _) h⟩⟩
end

/-! ### t + u from nothing -/
def rCatT0 (K : PySem.W.Frag) : R2 := fun x y H Q => ∃ a b ys, x = .ref a ∧ y = .ref b ∧ SqT K H a [] ∧ SqT K H b ys ∧ Q (.ref b) H
theorem op_catT0 {X : Cx} : OpR X (binaryOp .Add) (rCatT0 X.K) := by
  intro pins s σ H x y v u Q I rx ry h
  obtain ⟨a, b, ys, rfl, rfl, ha, hb, q⟩ := h
  cases rx
  cases ry
  obtain ⟨its, r1, p1, _⟩ := I.tuple ha
  obtain ⟨its2, r2, p2, _⟩ := I.tuple hb
  cases r1
  obtain ⟨⟨cls, dd, data, sl⟩, ho, hc, n, hd⟩ := id p1
  obtain ⟨⟨cls2, dd2, data2, sl2⟩, ho2, hc2, n2, hd2⟩ := id p2
  simp only at hc hd hc2 hd2
  subst hc hd hc2 hd2
  exact concat_meets ⟨_, ho, rfl⟩ ⟨_, ho2, rfl⟩ noFill_tuple_add seq_tuple_add PySem.F.slot_tuple_add PySem.F.entry_tuple_add (PySem.F.args_tuple_add_2 _ _)
      (tuple_addW0 a b _ its2.toArray n n2 dd dd2 sl sl2 (by simp)) ⟨ho, ho2, ⟨.ref b, H, I, rfl, q⟩⟩
abbrev rAddP (K : PySem.W.Frag) : R2 := fun x y H Q => rI0 (fun i j => .int (i + j)) x y H Q ∨ (rCatT K x y H Q ∨ (rCatT0 K x y H Q ∨ (rCat x y H Q ∨ (∃ i j, x = .str i ∧ y = .str j ∧ i.length + j.length ≤ sizeLine ∧ Q (.str (i ++ j)) H))))
theorem op_addP {X : Cx} {K : PySem.W.Frag} (h : X.K = K) : OpR X (binaryOp .Add) (rAddP K) := by subst h; exact opr_or op_add (opr_or op_catT (opr_or op_catT0 (opr_or op_cat op_add_str)))
@[simp] def gAdd : G2
  | .int i, .int j, k => k (.int (i + j))
  | .str i, .str j, k => i.length + j.length ≤ sizeLine ∧ k (.str (i ++ j))
  | .tup i, .tup j, k => i.length + j.length ≤ sizeLine ∧ k (.tup (i ++ j))
  | .lst i, .lst j, k => i.length + j.length ≤ sizeLine ∧ k (.lst (i ++ j))
  | _, _, _ => False
@[simp] def fCat : F2
  | .lst i, .lst j, k => i.length + j.length ≤ sizeLine ∧ k (i ++ j)
  | _, _, _ => False
section
variable {Γ : Gx}
theorem os_add : OS Γ (rAddP Γ.K) gAdd := ⟨fun {T x y a b Q Q'} ok rx ry h q => by
  cases a <;> cases b <;> first | exact h.elim | skip
  · obtain rfl := rx.int
    obtain rfl := ry.int
    exact .inl ⟨_, _, rfl, rfl, gr_sc ok q (.int _) h⟩
  · obtain rfl := rx.str
    obtain rfl := ry.str
    exact .inr (.inr (.inr (.inr ⟨_, _, rfl, rfl, h.1, gr_sc ok q (.str _) h.2⟩)))
  · obtain ⟨a, vs, rfl, ha, ra⟩ := rx.tup ok
    obtain ⟨b, us, rfl, hb, rb⟩ := ry.tup ok
    obtain ⟨hz, h⟩ := h
    rw [← ra.len, ← rb.len] at hz
    cases ra with
    | nil => 
      refine .inr (.inr (.inl ⟨_, _, _, rfl, rfl, ha, hb, ?_⟩))
      cases ry with
      | sh r => exact gr_sc ok q r h
    | cons r t =>
      refine .inr (.inl ⟨_, _, _, _, rfl, rfl, ha, hb, by simp, hz, fun e => ?_, fun e p n => gr_new ok q n (r_tup ok n ((RA.cons r t).app rb)) h⟩)
      subst e
      cases rb
      rw [List.append_nil] at h
      cases rx with
      | sh r => exact gr_sc ok q r h
  · obtain ⟨a, vs, rfl, ha, ra⟩ := rx.lst ok
    obtain ⟨b, us, rfl, hb, rb⟩ := ry.lst ok
    obtain ⟨hz, h⟩ := h
    rw [← ra.len, ← rb.len] at hz
    exact .inr (.inr (.inr (.inl ⟨_, _, _, _, rfl, rfl, ha, hb, hz, fun p n => gr_new ok q n (r_lst ok n (ra.app rb)) h⟩)))⟩
theorem os_cat : OSF Γ rCat fCat := ⟨fun {T x y a b Q Q'} ok rx ry h q => by
  cases a <;> cases b <;> first | exact h.elim | skip
  obtain ⟨a, vs, rfl, ha, ra⟩ := rx.lst ok
  obtain ⟨b, us, rfl, hb, rb⟩ := ry.lst ok
  obtain ⟨hz, h⟩ := h
  rw [← ra.len, ← rb.len] at hz
  exact ⟨_, _, _, _, rfl, rfl, ha, hb, hz, fun p n => q p _ _ n (ra.app rb) h⟩⟩
end

/-! ### data, equality -/
@[simp] def D.dat : Nat → D → Bool
  | _, .non => true
  | _, .bl _ => true
  | _, .int _ => true
  | _, .str z => PyData.strOk z
  | n + 1, .tup l => l.all (D.dat n)
  | n + 1, .lst l => l.all (D.dat n)
  | _, _ => false
mutual
def D.pd : D → PyData
  | .non => .none
  | .bl b => .bool b
  | .int i => .int i
  | .str z => .str z
  | .tup l => .tuple (D.pdL l)
  | .lst l => .list (D.pdL l)
  | _ => .none
def D.pdL : List D → List PyData
  | [] => []
  | d :: l => d.pd :: D.pdL l
end
theorem D.pdL_map : ∀ l : List D, D.pdL l = l.map D.pd
  | [] => rfl
  | d :: l => by rw [D.pdL, D.pdL_map l, List.map_cons]
def D.eqv (a b : D) : Bool := PyData.eqv a.pd b.pd
theorem dat_shape : ∀ {n : Nat} {d : D}, d.dat n = true → d.pd.canLay0 = true ∧ d.pd.depth ≤ n := by
  have hall : ∀ {n : Nat}, (∀ {d : D}, d.dat n = true → d.pd.canLay0 = true ∧ d.pd.depth ≤ n) → ∀ l : List D, l.all (D.dat n) = true → PyData.canLayAll0 (D.pdL l) = true ∧ PyData.depthAll (D.pdL l) ≤ n := by
    intro n ih l
    induction l with
    | nil => intro _; exact ⟨by simp [D.pdL, PyData.canLayAll0], by simp [D.pdL, PyData.depthAll]⟩
    | cons d l il =>
      intro h
      rw [List.all_cons, Bool.and_eq_true] at h
      obtain ⟨h1, h2⟩ := ih h.1
      obtain ⟨h3, h4⟩ := il h.2
      refine ⟨by simp [D.pdL, PyData.canLayAll0, h1, h3], ?_⟩
      simp only [D.pdL, PyData.depthAll]
      omega
  intro n
  induction n with
  | zero =>
    intro d h
    cases d with
    | str z =>
      have h2 : PyData.strOk z = true := h
      exact ⟨by simp [D.pd, PyData.canLay0, h2], Nat.le_refl _⟩
    | non => exact ⟨rfl, Nat.zero_le _⟩
    | bl b => exact ⟨rfl, Nat.zero_le _⟩
    | int b => exact ⟨rfl, Nat.zero_le _⟩
    | _ => cases h
  | succ n ih =>
    intro d h
    cases d with
    | non => exact ⟨rfl, Nat.zero_le _⟩
    | bl b => exact ⟨rfl, Nat.zero_le _⟩
    | int b => exact ⟨rfl, Nat.zero_le _⟩
    | str b =>
      have h2 : PyData.strOk b = true := h
      exact ⟨by simp [D.pd, PyData.canLay0, h2], Nat.zero_le _⟩
    | tup l =>
      obtain ⟨h1, h2⟩ := hall ih l (by rw [← h, D.dat])
      exact ⟨by simp [D.pd, PyData.canLay0, h1], by simp [D.pd, PyData.depth]; omega⟩
    | lst l =>
      obtain ⟨h1, h2⟩ := hall ih l (by rw [← h, D.dat])
      exact ⟨by simp [D.pd, PyData.canLay0, h1], by simp [D.pd, PyData.depth]; omega⟩
    | _ => cases h
theorem dat_shaped {n : Nat} {d : D} (hn : n ≤ 64) (h : d.dat n = true) : SeqAt.shaped d.pd = true := by
  obtain ⟨h1, h2⟩ := dat_shape h
  unfold SeqAt.shaped
  rw [h1, decide_eq_true (Nat.le_trans h2 hn)]
  rfl
section
variable {Γ : Gx} {T : Wo}
mutual
theorem R.dp (ok : T.Ok) : ∀ {v : V} {d : D} {n : Nat}, R Γ T.H0 T.Hd v d → d.dat n = true → Dp Γ.K T.H v d.pd
  | _, _, _, .non, _ => .non
  | _, _, _, .bl b, _ => .bl b
  | _, _, _, .int i, _ => .int i
  | _, _, _, .str z, _ => .str z
  | _, _, 0, .tup h a, e => nomatch e
  | _, _, n + 1, .tup h a, e => .tup (seqT ok.s0 h) (RA.dp ok a (n := n) (by rw [← e, D.dat]))
  | _, _, 0, .lst h a, e => nomatch e
  | _, _, n + 1, .lst h a, e => .lst (SqL.of (ok.s0 _ _ h)) (RA.dp ok a (n := n) (by rw [← e, D.dat]))
  | _, _, 0, .obj _ _ _ _ _, e => nomatch e
  | _, _, _ + 1, .obj _ _ _ _ _, e => nomatch e
  | _, _, 0, .hnd _, e => nomatch e
  | _, _, _ + 1, .hnd _, e => nomatch e
  | _, _, 0, .scr _, e => nomatch e
  | _, _, _ + 1, .scr _, e => nomatch e
  | _, _, 0, .dct _ _, e => nomatch e
  | _, _, _ + 1, .dct _ _, e => nomatch e
  | _, _, 0, .set _, e => nomatch e
  | _, _, _ + 1, .set _, e => nomatch e
theorem RA.dp (ok : T.Ok) : ∀ {vs : List V} {l : List D} {n : Nat}, RA Γ T.H0 T.Hd vs l → l.all (D.dat n) = true → DpAll Γ.K T.H vs (D.pdL l)
  | _, _, _, .nil, _ => .nil
  | _, _, n, .cons (d := d) h t, e => by
    rw [List.all_cons, Bool.and_eq_true] at e
    exact .cons (R.dp ok h e.1) (RA.dp ok t e.2)
end
theorem RO.dp (ok : T.Ok) {v : V} {d : D} {n : Nat} (h : RO Γ T v d) (e : d.dat n = true) : Dp Γ.K T.H v d.pd := by
  cases h with
  | sh h => exact h.dp ok e
  | di h a => cases n <;> cases e
  | li h a =>
    cases n with
    | zero => cases e
    | succ n => exact .lst (SqL.of h) (RA.dp ok a (n := n) (by rw [← e, D.dat]))
/-- the bound on the depth of data that are compared -/
def dmax : Nat := 8
@[simp] def gEq : G2 := fun a b k => (a.dat dmax = true ∧ b.dat dmax = true) ∧ k (.bl (D.eqv a b))
@[simp] def gNe : G2 := fun a b k => (a.dat dmax = true ∧ b.dat dmax = true) ∧ k (.bl (!D.eqv a b))
theorem os_eq : OS Γ (rEqD Γ.K) gEq := ⟨fun {T x y a b Q Q'} ok rx ry h q =>
  ⟨_, _, rx.dp ok h.1.1, ry.dp ok h.1.2, dat_shaped (by decide) h.1.1, dat_shaped (by decide) h.1.2, gr_sc ok q (.bl _) h.2⟩⟩
theorem os_ne : OS Γ (rNeD Γ.K) gNe := ⟨fun {T x y a b Q Q'} ok rx ry h q =>
  ⟨_, _, rx.dp ok h.1.1, ry.dp ok h.1.2, dat_shaped (by decide) h.1.1, dat_shaped (by decide) h.1.2, gr_sc ok q (.bl _) h.2⟩⟩
/-! ### is None, is True -/
@[simp] def D.isNon : D → Bool
  | .non => true
  | _ => false
theorem isNon_iff {v : V} {d : D} (h : RO Γ T v d) : decide (v = .non) = d.isNon := by
  have e := h.isNon
  cases d <;> simp [D.isNon] at e ⊢ <;> exact e
@[simp] def gIsN : G2
  | a, .non, k => k (.bl a.isNon)
  | _, _, _ => False
@[simp] def gNotN : G2
  | a, .non, k => k (.bl (!a.isNon))
  | _, _, _ => False
theorem os_isN : OS Γ (fun x y H Q => y = .non ∧ Q (.bl (decide (x = .non))) H) gIsN := ⟨fun {T x y a b Q Q'} ok rx ry h q => by
  cases b <;> first | exact h.elim | skip
  refine ⟨ry.non, ?_⟩
  rw [isNon_iff rx]
  exact gr_sc ok q (.bl _) h⟩
theorem os_notN : OS Γ (fun x y H Q => y = .non ∧ Q (.bl (!decide (x = .non))) H) gNotN := ⟨fun {T x y a b Q Q'} ok rx ry h q => by
  cases b <;> first | exact h.elim | skip
  refine ⟨ry.non, ?_⟩
  rw [isNon_iff rx]
  exact gr_sc ok q (.bl _) h⟩
@[simp] def gIsB : G2
  | .bl a, .bl b, k => k (.bl (decide (a = b)))
  | _, _, _ => False
theorem os_isB : OS Γ rIsB gIsB := ⟨fun {T x y a b Q Q'} ok rx ry h q => by
  cases a <;> cases b <;> first | exact h.elim | skip
  exact ⟨_, _, rx.bl, ry.bl, gr_sc ok q (.bl _) h⟩⟩
/-! ### in -/
@[simp] def D.flat : D → Bool
  | .non => true
  | .bl _ => true
  | .int _ => true
  | .str _ => true
  | _ => false
theorem R.flat {v : V} {d : D} {H0 Hd : Hp} (h : R Γ H0 Hd v d) (f : d.flat = true) : flatV v = true := by cases h <;> first | rfl | cases f
theorem R.eqf {v u : V} {d e : D} {H0 Hd H0' Hd' : Hp} (h : R Γ H0 Hd v d) (h' : R Γ H0' Hd' u e) (f : d.flat = true) (f' : e.flat = true) : eqV v u = D.eqv d e := by
  cases h <;> first | cases f | skip
  all_goals (cases h' <;> first | cases f' | skip)
  all_goals (unfold D.eqv D.pd; simp only [eqV, PyData.eqv])
theorem RA.flat {H0 Hd : Hp} : ∀ {vs : List V} {l : List D}, RA Γ H0 Hd vs l → l.all D.flat = true → vs.all flatV = true
  | _, _, .nil, _ => rfl
  | _, _, .cons h t, e => by
    rw [List.all_cons, Bool.and_eq_true] at e ⊢
    exact ⟨h.flat e.1, t.flat e.2⟩
theorem RA.inV {H0 Hd H0' Hd' : Hp} {u : V} {e : D} (h' : R Γ H0' Hd' u e) (f' : e.flat = true) : ∀ {vs : List V} {l : List D}, RA Γ H0 Hd vs l → l.all D.flat = true → inV u vs = l.any fun y => D.eqv y e
  | _, _, .nil, _ => rfl
  | _, _, .cons h t, f => by
    rw [List.all_cons, Bool.and_eq_true] at f
    show (_ || _) = _
    dsimp only
    rw [List.any_cons, h.eqf h' f.1 f', ← RA.inV h' f' t f.2]
    rfl
def D.mem (x : D) (l : List D) : Bool := l.any fun y => D.eqv y x
@[simp] def gIn : G2
  | x, .lst l, k => (x.flat = true ∧ l.all D.flat = true) ∧ k (.bl (x.mem l))
  | x, .tup l, k => (x.flat = true ∧ l.all D.flat = true) ∧ k (.bl (x.mem l))
  | _, _, _ => False
@[simp] def gNotIn : G2
  | x, .lst l, k => (x.flat = true ∧ l.all D.flat = true) ∧ k (.bl (!x.mem l))
  | x, .tup l, k => (x.flat = true ∧ l.all D.flat = true) ∧ k (.bl (!x.mem l))
  | _, _, _ => False
theorem RO.fl {v : V} {d : D} (h : RO Γ T v d) (f : d.flat = true) : R Γ T.H0 T.Hd v d := by
  cases h with
  | sh h => exact h
  | li _ _ => cases f
  | di _ _ => cases f
theorem os_in : OS Γ (rIn Γ.K false) gIn := ⟨fun {T x y a b Q Q'} ok rx ry h q => by
  cases b <;> first | exact h.elim | skip
  · obtain ⟨p, vs, rfl, hp, rp⟩ := ry.tup ok
    obtain ⟨⟨f1, f2⟩, h⟩ := h
    refine ⟨p, vs, rfl, .inr hp, (rx.fl f1).flat f1, rp.flat f2, ?_⟩
    rw [if_neg Bool.false_ne_true, rp.inV (rx.fl f1) f1 f2]
    exact gr_sc ok q (.bl _) h
  · obtain ⟨p, vs, rfl, hp, rp⟩ := ry.lst ok
    obtain ⟨⟨f1, f2⟩, h⟩ := h
    refine ⟨p, vs, rfl, .inl (SqL.of hp), (rx.fl f1).flat f1, rp.flat f2, ?_⟩
    rw [if_neg Bool.false_ne_true, rp.inV (rx.fl f1) f1 f2]
    exact gr_sc ok q (.bl _) h⟩
theorem os_notIn : OS Γ (rIn Γ.K true) gNotIn := ⟨fun {T x y a b Q Q'} ok rx ry h q => by
  cases b <;> first | exact h.elim | skip
  · obtain ⟨p, vs, rfl, hp, rp⟩ := ry.tup ok
    obtain ⟨⟨f1, f2⟩, h⟩ := h
    refine ⟨p, vs, rfl, .inr hp, (rx.fl f1).flat f1, rp.flat f2, ?_⟩
    rw [if_pos rfl, rp.inV (rx.fl f1) f1 f2]
    exact gr_sc ok q (.bl _) h
  · obtain ⟨p, vs, rfl, hp, rp⟩ := ry.lst ok
    obtain ⟨⟨f1, f2⟩, h⟩ := h
    refine ⟨p, vs, rfl, .inl (SqL.of hp), (rx.fl f1).flat f1, rp.flat f2, ?_⟩
    rw [if_pos rfl, rp.inV (rx.fl f1) f1 f2]
    exact gr_sc ok q (.bl _) h⟩
/-! ### items -/
def oK {α : Type} : Option α → (α → Prop) → Prop
  | some x, k => k x
  | none, _ => False
@[simp] theorem oK_some {α : Type} {x : α} {k : α → Prop} : oK (some x) k ↔ k x := Iff.rfl
@[simp] theorem oK_none {α : Type} {k : α → Prop} : oK (none : Option α) k ↔ False := Iff.rfl
theorem oK_of {α : Type} {o : Option α} {k : α → Prop} (h : oK o k) : ∃ x, o = some x ∧ k x := by
  cases o with
  | some x => exact ⟨x, rfl, h⟩
  | none => exact h.elim
theorem RA.atI {H0 Hd : Hp} {vs : List V} {l : List D} {i : Int} {d : D} (h : RA Γ H0 Hd vs l) (e : atI l i = some d) : ∃ v, L2.atI vs i = some v ∧ R Γ H0 Hd v d := by
  unfold L2.atI at e ⊢
  rw [h.len]
  cases z : ixN l.length i with
  | none => rw [z] at e; cases e
  | some j =>
    rw [z] at e
    exact h.get e
@[simp] def gIx : G2
  | .lst l, .int i, k => oK (atI l i) k
  | .tup l, .int i, k => oK (atI l i) k
  | .str z, .int i, k => z.length ≤ sizeLine ∧ oK (atI z.cps.toList i) fun c => k (.str ⟨#[c]⟩)
  | _, _, _ => False
theorem kix_seq {X : Cx} {K : PySem.W.Frag} (h : X.K = K) : IxR X (rIx K) := by subst h; exact ix_seq
theorem os_ix : OS Γ (rIx Γ.K) gIx := ⟨fun {T x y a b Q Q'} ok rx ry h q => by
  cases a <;> cases b <;> first | exact h.elim | skip
  · obtain rfl := rx.str
    obtain rfl := ry.int
    obtain ⟨h1, h⟩ := h
    obtain ⟨c, hc, h⟩ := oK_of h
    exact .inr (.inr ⟨_, _, c, rfl, rfl, h1, hc, gr_sc ok q (.str _) h⟩)
  · obtain ⟨p, vs, rfl, hp, rp⟩ := rx.tup ok
    obtain rfl := ry.int
    obtain ⟨c, hc, h⟩ := oK_of h
    obtain ⟨v, hv, r⟩ := rp.atI hc
    exact .inr (.inl ⟨p, vs, _, v, rfl, rfl, hp, hv, gr_sc ok q r h⟩)
  · obtain ⟨p, vs, rfl, hp, rp⟩ := rx.lst ok
    obtain rfl := ry.int
    obtain ⟨c, hc, h⟩ := oK_of h
    obtain ⟨v, hv, r⟩ := rp.atI hc
    exact .inl ⟨p, vs, _, v, rfl, rfl, SqL.of hp, hv, gr_sc ok q r h⟩⟩
end
end Vl

namespace Vl
open PySem PySem.Spec PyProof.Rows L2 Hl

section
variable {Γ : Gx} {X : Cx} {T : Wo} {σ : L2.St} {ρ : Vn}
theorem ARs.ext {T' : Wo} : ∀ {vs : List V} {as : List AI}, ARs Γ T σ vs as → Ext Γ T T' → ARs Γ T' σ vs as
  | _, _, .nil, _ => .nil
  | _, _, .cons h t, e => .cons (h.ext e) (t.ext e)
/-- what a new list's place is -/
theorem fresh_priv {p : Addr} (S : Sv Γ T σ ρ) (n : T.H p = none) : ∀ (j : Nat) (c : Cell), ρ[j]? = some c → c.priv = true → σ[j]? ≠ some (some (.ref p)) := by
  intro j c e pc z
  obtain ⟨s, e1, r⟩ := S.cell j c e
  rw [z] at e1
  cases e1
  cases c with
  | own l => obtain ⟨q, vs, e2, e3, _⟩ := r; cases e2; rw [n] at e3; cases e3
  | obj q c l => obtain ⟨C, dx, vs, e2, e3, _⟩ := r; cases e2; rw [n] at e3; cases e3
  | dic l => obtain ⟨q, vs, e2, e3, _⟩ := r; cases e2; rw [n] at e3; cases e3
  | pin q l => obtain ⟨vs, e2, _, e3, _⟩ := r; cases e2; rw [none_of_le S.ok.sF n] at e3; cases e3
  | _ => cases pc
/-! ### operators -/
@[simp] def wOp (g : G2) (wa wb : WO) : WE := fun ρ Q => wa ρ fun a ρ1 => wb ρ1 fun b ρ2 => rs1 ρ2 a fun x => rs1 ρ2 b fun y => g x y fun z => Q z ρ2
@[simp] def wOpF (g : F2) (wa wb : WO) : WF := fun ρ Q => wa ρ fun a ρ1 => wb ρ1 fun b ρ2 => rs1 ρ2 a fun x => rs1 ρ2 b fun y => g x y fun z => Q z ρ2
theorem se_op {r : R2} {g : G2} {ta tb : TE} {wa wb : WO} (o : OS Γ r g) (ha : SO Γ ta wa) (hb : SO Γ tb wb) : SE Γ (tOp r ta tb) (wOp g wa wb) := ⟨fun {T σ ρ Q Q'} S h q =>
  ha.h S h fun x T1 a ρ1 S1 e1 r1 q1 => hb.h S1 q1 fun y T2 b ρ2 S2 e2 r2 q2 => by
    obtain ⟨dx, rx, q2⟩ := S2.rs1 (r1.ext e2) q2
    obtain ⟨dy, ry, q2⟩ := S2.rs1 r2 q2
    exact o.h S2.ok rx ry q2 fun v T3 d g3 r3 q3 => q v T3 d ρ2 (S2.grow g3) ((e1.trans e2).trans g3.ext) r3 q3⟩
theorem sf_new {p : Addr} {vs : List V} {l : List D} {T1 : Wo} {ρ2 : Vn} {Q : List D → Vn → Prop} {Q' : VK} (S2 : Sv Γ T σ ρ2) (e : Ext Γ T1 T)
    (q : ∀ p vs T' l ρ', Sv Γ T' σ ρ' → Ext Γ T1 T' → T'.H p = some (.lst vs) → T'.F p = none → T'.H0 p = none → T'.Hd p = none → (∀ (j : Nat) (c : Cell), ρ'[j]? = some c → c.priv = true → σ[j]? ≠ some (some (.ref p))) → RA Γ T'.H0 T'.Hd vs l → Q l ρ' → Q' (.ref p) T'.H)
    (n : T.H p = none) (r : RA Γ T.H0 T.Hd vs l) (h : Q l ρ2) : Q' (.ref p) (upd T.H p (.lst vs)) := by
  have g := Gr.priv (o := .lst vs) S2.ok n
  exact q p vs ⟨T.F, T.H0, T.Hd, upd T.H p (.lst vs), T.P⟩ l ρ2 (S2.grow g) (e.trans g.ext) upd_same (none_of_le S2.ok.sF n) (none_of_le S2.ok.s0 n) (none_of_le S2.ok.sd n) (fresh_priv S2 n) r h
theorem sf_op {r : R2} {g : F2} {ta tb : TE} {wa wb : WO} (o : OSF Γ r g) (ha : SO Γ ta wa) (hb : SO Γ tb wb) : SF Γ (tOp r ta tb) (wOpF g wa wb) := ⟨fun {T σ ρ Q Q'} S h q =>
  ha.h S h fun x T1 a ρ1 S1 e1 r1 q1 => hb.h S1 q1 fun y T2 b ρ2 S2 e2 r2 q2 => by
    obtain ⟨dx, rx, q2⟩ := S2.rs1 (r1.ext e2) q2
    obtain ⟨dy, ry, q2⟩ := S2.rs1 r2 q2
    exact o.h S2.ok rx ry q2 fun p vs l n r3 q3 => sf_new S2 (e1.trans e2) q n r3 q3⟩
variable {a b : Expr} {ta tb : TE} {wa wb : WO} {pos : Pos}
theorem ve_op {op : Operator} {r : R2} {g : G2} (h : OpR X (binaryOp op) r) (o : OS Γ r g) (ha : VO Γ X a ta wa) (hb : VO Γ X b tb wb) : VE Γ X (.BinOp a op b pos) (tOp r ta tb) (wOp g wa wb) := ⟨pe_op h ha.pe hb.pe, se_op o ha.se hb.se⟩
theorem vf_op {op : Operator} {r : R2} {g : F2} (h : OpR X (binaryOp op) r) (o : OSF Γ r g) (ha : VO Γ X a ta wa) (hb : VO Γ X b tb wb) : VF Γ X (.BinOp a op b pos) (tOp r ta tb) (wOpF g wa wb) := ⟨pe_op h ha.pe hb.pe, sf_op o ha.se hb.se⟩
theorem ve_cmp {op : CmpOp} {r : R2} {g : G2} (h : OpR X (compareOp op) r) (o : OS Γ r g) (ha : VO Γ X a ta wa) (hb : VO Γ X b tb wb) (hm : behindInMarks op b = false) : VE Γ X (.Compare a [op] [b] pos) (tOp r ta tb) (wOp g wa wb) := ⟨pe_cmpR h ha.pe hb.pe hm, se_op o ha.se hb.se⟩
/-- a value as a test -/
@[simp] def cBl : D → (Bool → Prop) → Prop
  | .bl b, k => k b
  | _, _ => False
theorem cBl_of {d : D} {k : Bool → Prop} (h : cBl d k) : ∃ b, d = .bl b ∧ k b := by
  cases d with
  | bl b => exact ⟨b, rfl, h⟩
  | _ => exact h.elim
@[simp] def wTst (w : WE) : WT := fun ρ Q => w ρ fun d ρ1 => cBl d fun b => Q b ρ1
theorem st_tst {t : TE} {w : WE} (h : SE Γ t w) : ST Γ (tTest t) (wTst w) := ⟨fun {T σ ρ Q Q'} S hw q => h.h S hw fun v T1 d ρ1 S1 e1 r1 q1 => by
  obtain ⟨b, rfl, q1⟩ := cBl_of q1
  cases r1
  exact ⟨b, rfl, q b T1 ρ1 S1 e1 q1⟩⟩
theorem vt_cmp {op : CmpOp} {r : R2} {g : G2} (h : OpR X (compareOp op) r) (o : OS Γ r g) (ha : VO Γ X a ta wa) (hb : VO Γ X b tb wb) (hm : behindInMarks op b = false) : VT Γ X (.Compare a [op] [b] pos) (tTest (tOp r ta tb)) (wTst (wOp g wa wb)) := ⟨pt_cmpR h ha.pe hb.pe hm, st_tst (se_op o ha.se hb.se)⟩
/-- a < b < c -/
@[simp] def wChain (g g' : G2) (wa wb wc : WE) : WE := fun ρ Q => wa ρ fun x ρ1 => wb ρ1 fun y ρ2 => g x y fun z => cBl z fun k => (k = true → wc ρ2 fun u ρ3 => g' y u fun z' => Q z' ρ3) ∧ (k = false → Q (.bl false) ρ2)
theorem se_chain {r r' : R2} {g g' : G2} {ta tb tc : TE} {wa wb wc : WE} (o : OS Γ r g) (o' : OS Γ r' g') (ha : SE Γ ta wa) (hb : SE Γ tb wb) (hc : SE Γ tc wc) : SE Γ (tChain r r' ta tb tc) (wChain g g' wa wb wc) := ⟨fun {T σ ρ Q Q'} S h q =>
  ha.h S h fun x T1 dx ρ1 S1 e1 r1 q1 => hb.h S1 q1 fun y T2 dy ρ2 S2 e2 r2 q2 => o.h S2.ok (.sh (r1.ext e2)) (.sh r2) q2 fun z T3 dz g3 r3 q3 => by
    obtain ⟨k, rfl, q3⟩ := cBl_of q3
    cases r3
    refine ⟨k, rfl, ?_⟩
    have S3 := S2.grow g3
    have e3 := (e1.trans e2).trans g3.ext (Γ := Γ)
    cases k with
    | true => exact iteT (hc.h S3 (q3.1 rfl) fun u T4 du ρ4 S4 e4 r4 q4 => o'.h S4.ok (.sh ((r2.ext g3.ext).ext e4)) (.sh r4) q4 fun v T5 d g5 r5 q5 => q v T5 d ρ4 (S4.grow g5) ((e3.trans e4).trans g5.ext) r5 q5)
    | false => exact iteF (q (.bl false) T3 (.bl false) ρ2 S3 e3 (.bl false) (q3.2 rfl))⟩
theorem ve_chain {op op' : CmpOp} {r r' : R2} {g g' : G2} {c : Expr} {tc : TE} {wa wb wc : WE} (h : OpR X (compareOp op) r) (h' : OpR X (compareOp op') r') (o : OS Γ r g) (o' : OS Γ r' g') (ha : VE Γ X a ta wa) (hb : VE Γ X b tb wb) (hc : VE Γ X c tc wc)
    (hm : lastMarks [op, op'] [b, c] = false := by with_unfolding_all rfl) : VE Γ X (.Compare a [op, op'] [b, c] pos) (tChain r r' ta tb tc) (wChain g g' wa wb wc) := ⟨pe_chain h h' ha.pe hb.pe hc.pe hm, se_chain o o' ha.se hb.se hc.se⟩
theorem vt_chain {op op' : CmpOp} {r r' : R2} {g g' : G2} {c : Expr} {tc : TE} {wa wb wc : WE} (h : OpR X (compareOp op) r) (h' : OpR X (compareOp op') r') (o : OS Γ r g) (o' : OS Γ r' g') (ha : VE Γ X a ta wa) (hb : VE Γ X b tb wb) (hc : VE Γ X c tc wc)
    (hm : lastMarks [op, op'] [b, c] = false := by with_unfolding_all rfl) : VT Γ X (.Compare a [op, op'] [b, c] pos) (tTest (tChain r r' ta tb tc)) (wTst (wChain g g' wa wb wc)) := ⟨pt_chain h h' ha.pe hb.pe hc.pe hm, st_tst (se_chain o o' ha.se hb.se hc.se)⟩
/-! ### unary -/
@[simp] def gNeg : G1
  | .int i, k => k (.int (-i))
  | _, _ => False
@[simp] def wUn (g : G1) (w : WE) : WE := fun ρ Q => w ρ fun d ρ1 => g d fun z => Q z ρ1
theorem ve_neg {w : WE} (ha : VE Γ X a ta w) : VE Γ X (.UnaryOp .USub a pos) (tUn (rU fun i => .int (-i)) ta) (wUn gNeg w) := ⟨pe_un un_neg ha.pe, ⟨fun {T σ ρ Q Q'} S h q => ha.se.h S h fun x T1 d ρ1 S1 e1 r1 q1 => by
  cases d <;> first | exact q1.elim | skip
  cases r1
  exact ⟨_, rfl, q _ T1 _ ρ1 S1 e1 (.int _) q1⟩⟩⟩
@[simp] def gNot : G1
  | .bl i, k => k (.bl (!i))
  | _, _ => False
theorem ve_not {w : WE} (ha : VE Γ X a ta w) : VE Γ X (.UnaryOp .Not a pos) (tNotV ta) (wUn gNot w) := ⟨pe_not ha.pe, ⟨fun {T σ ρ Q Q'} S h q => ha.se.h S h fun x T1 d ρ1 S1 e1 r1 q1 => by
  cases d <;> first | exact q1.elim | skip
  cases r1
  exact ⟨_, rfl, q _ T1 _ ρ1 S1 e1 (.bl _) q1⟩⟩⟩
/-! ### tests -/
@[simp] def wAnd (w u : WT) : WT := fun ρ Q => w ρ fun c ρ1 => (c = true → u ρ1 Q) ∧ (c = false → Q false ρ1)
@[simp] def wOr (w u : WT) : WT := fun ρ Q => w ρ fun c ρ1 => (c = true → Q true ρ1) ∧ (c = false → u ρ1 Q)
@[simp] def wNot (w : WT) : WT := fun ρ Q => w ρ fun c ρ1 => Q (!c) ρ1
section
variable {t u : TT} {w z : WT} {e : Expr} {es : List Expr}
theorem st_and (h : ST Γ t w) (h' : ST Γ u z) : ST Γ (tAnd t u) (wAnd w z) := ⟨fun {T σ ρ Q Q'} S hw q => h.h S hw fun c T1 ρ1 S1 e1 q1 => by
  cases c with
  | true => exact iteT (h'.h S1 (q1.1 rfl) fun b T2 ρ2 S2 e2 q2 => q b T2 ρ2 S2 (e1.trans e2) q2)
  | false => exact iteF (q false T1 ρ1 S1 e1 (q1.2 rfl))⟩
theorem st_or (h : ST Γ t w) (h' : ST Γ u z) : ST Γ (tOr t u) (wOr w z) := ⟨fun {T σ ρ Q Q'} S hw q => h.h S hw fun c T1 ρ1 S1 e1 q1 => by
  cases c with
  | true => exact iteT (q true T1 ρ1 S1 e1 (q1.1 rfl))
  | false => exact iteF (h'.h S1 (q1.2 rfl) fun b T2 ρ2 S2 e2 q2 => q b T2 ρ2 S2 (e1.trans e2) q2)⟩
theorem st_not (h : ST Γ t w) : ST Γ (tNot t) (wNot w) := ⟨fun {T σ ρ Q Q'} S hw q => h.h S hw fun c T1 ρ1 S1 e1 q1 => q _ T1 ρ1 S1 e1 q1⟩
theorem VW.vt (h : VW Γ X e t w) : VT Γ X e t w := ⟨h.pe.pt, h.se⟩
theorem vt_not (h : VT Γ X e t w) : VT Γ X (.UnaryOp .Not e pos) (tNot t) (wNot w) := ⟨pt_not h.pe, st_not h.se⟩
/-- any value's truth -/
@[simp] def cTru : D → (Bool → Prop) → Prop
  | .non, k => k false
  | .bl b, k => k b
  | .int i, k => k (i != 0)
  | .tup l, k => k (!l.isEmpty)
  | .lst l, k => k (!l.isEmpty)
  | .str z, k => z.length ≤ sizeLine ∧ k ((z.length : Int) != 0)
  | _, _ => False
@[simp] def wTru (w : WO) : WT := fun ρ Q => w ρ fun a ρ1 => rs1 ρ1 a fun d => cTru d fun b => Q b ρ1
theorem isEmpty_len {α β : Type} : ∀ {l : List α} {m : List β}, l.length = m.length → l.isEmpty = m.isEmpty
  | [], [], _ => rfl
  | _ :: _, _ :: _, _ => rfl
theorem vt_tru {te : TE} {we : WO} (hK : X.K = Γ.K) (h : VO Γ X e te we) (he : ∀ whole, isTrue e X.env whole = (do let v ← whole; standAt e.pos; holding [v] (truthy v)) := by intro _; rfl) :
    VT Γ X e (fun σ H Q => te σ H fun x H' => ∃ k, TruV Γ.K x H' k ∧ Q k H') (wTru we) := ⟨by rw [← hK]; exact pt_truth h.pe he, ⟨fun {T σ ρ Q Q'} S hw q => h.se.h S hw fun v T1 a ρ1 S1 e1 r1 q1 => by
  obtain ⟨d, r, q1⟩ := S1.rs1 r1 q1
  cases d with
  | non => cases r.non; exact ⟨_, rfl, q _ T1 ρ1 S1 e1 q1⟩
  | bl b => cases r.bl; exact ⟨_, rfl, q _ T1 ρ1 S1 e1 q1⟩
  | int b => cases r.int; exact ⟨_, rfl, q _ T1 ρ1 S1 e1 q1⟩
  | str b => cases r.str; exact ⟨_, ⟨q1.1, rfl⟩, q _ T1 ρ1 S1 e1 q1.2⟩
  | tup l =>
    obtain ⟨p, vs, rfl, hp, rp⟩ := r.tup S1.ok
    refine ⟨!l.isEmpty, .inr (.inl ⟨vs, hp, by rw [isEmpty_len rp.len]⟩), q _ T1 ρ1 S1 e1 q1⟩
  | lst l =>
    obtain ⟨p, vs, rfl, hp, rp⟩ := r.lst S1.ok
    refine ⟨!l.isEmpty, .inl ⟨vs, SqL.of hp, by rw [isEmpty_len rp.len]⟩, q _ T1 ρ1 S1 e1 q1⟩
  | _ => exact q1.elim⟩⟩
/-- and, or of values, all but the last True or False; an if-expression -/
@[simp] def wAndV (w u : WE) : WE := fun ρ Q => w ρ fun d ρ1 => cBl d fun c => (c = true → u ρ1 Q) ∧ (c = false → Q (.bl false) ρ1)
@[simp] def wOrV (w u : WE) : WE := fun ρ Q => w ρ fun d ρ1 => cBl d fun c => (c = true → Q (.bl true) ρ1) ∧ (c = false → u ρ1 Q)
@[simp] def wIfE (c : WT) (w u : WE) : WE := fun ρ Q => c ρ fun c ρ1 => (c = true → w ρ1 Q) ∧ (c = false → u ρ1 Q)
theorem se_andV {t u : TE} {w z : WE} (h : SE Γ t w) (h' : SE Γ u z) : SE Γ (tAndV t u) (wAndV w z) := ⟨fun {T σ ρ Q Q'} S hw q => h.h S hw fun v T1 d ρ1 S1 e1 r1 q1 => by
  obtain ⟨c, rfl, q1⟩ := cBl_of q1
  cases r1
  refine ⟨c, rfl, ?_⟩
  cases c with
  | true => exact iteT (h'.h S1 (q1.1 rfl) fun v T2 d ρ2 S2 e2 r2 q2 => q v T2 d ρ2 S2 (e1.trans e2) r2 q2)
  | false => exact iteF (q _ T1 _ ρ1 S1 e1 (.bl false) (q1.2 rfl))⟩
theorem se_orV {t u : TE} {w z : WE} (h : SE Γ t w) (h' : SE Γ u z) : SE Γ (tOrV t u) (wOrV w z) := ⟨fun {T σ ρ Q Q'} S hw q => h.h S hw fun v T1 d ρ1 S1 e1 r1 q1 => by
  obtain ⟨c, rfl, q1⟩ := cBl_of q1
  cases r1
  refine ⟨c, rfl, ?_⟩
  cases c with
  | true => exact iteT (q _ T1 _ ρ1 S1 e1 (.bl true) (q1.1 rfl))
  | false => exact iteF (h'.h S1 (q1.2 rfl) fun v T2 d ρ2 S2 e2 r2 q2 => q v T2 d ρ2 S2 (e1.trans e2) r2 q2)⟩
theorem se_ifE {t : TT} {ta tb : TE} {w : WT} {wa wb : WE} (h : ST Γ t w) (ha : SE Γ ta wa) (hb : SE Γ tb wb) : SE Γ (tIf t ta tb) (wIfE w wa wb) := ⟨fun {T σ ρ Q Q'} S hw q => h.h S hw fun c T1 ρ1 S1 e1 q1 => by
  cases c with
  | true => exact iteT (ha.h S1 (q1.1 rfl) fun v T2 d ρ2 S2 e2 r2 q2 => q v T2 d ρ2 S2 (e1.trans e2) r2 q2)
  | false => exact iteF (hb.h S1 (q1.2 rfl) fun v T2 d ρ2 S2 e2 r2 q2 => q v T2 d ρ2 S2 (e1.trans e2) r2 q2)⟩
theorem ve_ifE {c x y : Expr} {t : TT} {ta tb : TE} {w : WT} {wa wb : WE} (h : VT Γ X c t w) (ha : VE Γ X x ta wa) (hb : VE Γ X y tb wb) : VE Γ X (.IfExp c x y pos) (tIf t ta tb) (wIfE w wa wb) := ⟨pe_ifExp h.pe ha.pe hb.pe, se_ifE h.se ha.se hb.se⟩
end
/-! ### arguments, displays -/
@[simp] def wNil : WA := fun ρ Q => Q [] ρ
@[simp] def wCons (w : WO) (u : WA) : WA := fun ρ Q => w ρ fun a ρ1 => u ρ1 fun as ρ2 => Q (a :: as) ρ2
section
variable {e : Expr} {es : List Expr} {te : TE} {t : TA} {we : WO} {w : WA}
theorem va_nil : VA Γ X [] tNil wNil := ⟨pa_nil, ⟨fun {T σ ρ Q Q'} S h q => q [] T [] ρ S .refl .nil h⟩⟩
theorem va_cons (h : VO Γ X e te we) (h' : VA Γ X es t w) (hs : starEach (e :: es) X.env = (false, eval e X.env) :: starEach es X.env := by rfl) : VA Γ X (e :: es) (tCons te t) (wCons we w) := ⟨pa_cons h.pe h'.pe hs, ⟨fun {T σ ρ Q Q'} S hw q =>
  h.se.h S hw fun v T1 a ρ1 S1 e1 r1 q1 => h'.se.h S1 q1 fun vs T2 as ρ2 S2 e2 r2 q2 => q (v :: vs) T2 (a :: as) ρ2 S2 (e1.trans e2) (.cons (r1.ext e2) r2) q2⟩⟩
/-- all of them shared -/
@[simp] def shN : List AI → (List D → Prop) → Prop
  | [], k => k []
  | .d d :: r, k => shN r fun ds => k (d :: ds)
  | .sl _ :: _, _ => False
theorem shN_of {T : Wo} {σ : L2.St} : ∀ {vs : List V} {as : List AI} {k : List D → Prop}, ARs Γ T σ vs as → shN as k → ∃ ds, RA Γ T.H0 T.Hd vs ds ∧ k ds
  | _, _, _, .nil, h => ⟨[], .nil, h⟩
  | _, .d d :: _, _, .cons a r, h => by
    obtain ⟨ds, r2, h⟩ := shN_of r h
    exact ⟨d :: ds, .cons a r2, h⟩
@[simp] def wTup (w : WA) : WE := fun ρ Q => w ρ fun as ρ1 => shN as fun ds => ds.length ≤ sizeLine ∧ Q (.tup ds) ρ1
@[simp] def wLst (w : WA) : WF := fun ρ Q => w ρ fun as ρ1 => shN as fun ds => ds.length ≤ sizeLine ∧ Q ds ρ1
theorem ve_tup {x1} (h : VA Γ X es t w) : VE Γ X (.Tuple es x1 pos) (tTup t) (wTup w) := ⟨pe_tup h.pe, ⟨fun {T σ ρ Q Q'} S hw q => h.se.h S hw fun vs T1 as ρ1 S1 e1 r1 q1 => by
  obtain ⟨ds, r, hz, q1⟩ := shN_of r1 q1
  rw [← r.len] at hz
  refine ⟨hz, fun p n => ?_⟩
  have g := Gr.new (o := .tup vs) S1.ok n
  exact q _ _ _ ρ1 (S1.grow g) (e1.trans g.ext) (r_tup S1.ok n r) q1⟩⟩
theorem vf_lst (h : VA Γ X es t w) : VF Γ X (.List es pos) (tLst t) (wLst w) := ⟨pe_lst h.pe, ⟨fun {T σ ρ Q Q'} S hw q => h.se.h S hw fun vs T1 as ρ1 S1 e1 r1 q1 => by
  obtain ⟨ds, r, hz, q1⟩ := shN_of r1 q1
  rw [← r.len] at hz
  exact ⟨hz, fun p n => sf_new S1 e1 q n r q1⟩⟩⟩
/-- a new list is shared -/
@[simp] def wFz (w : WF) : WE := fun ρ Q => w ρ fun l ρ1 => Q (.lst l) ρ1
theorem Sv.freezeNew {p : Addr} {o : HO} (S : Sv Γ T σ ρ) (hp : T.H p = some o) (nF : T.F p = none) (n0 : T.H0 p = none) (nd : T.Hd p = none) (hn : ∀ (j : Nat) (c : Cell), ρ[j]? = some c → c.priv = true → σ[j]? ≠ some (some (.ref p))) :
    Sv Γ ⟨T.F, upd T.H0 p o, T.Hd, T.H, T.P⟩ σ ρ ∧ Ext Γ T ⟨T.F, upd T.H0 p o, T.Hd, T.H, T.P⟩ := by
  have E : Ext Γ T ⟨T.F, upd T.H0 p o, T.Hd, T.H, T.P⟩ := ⟨rfl, rfl, same_new n0, fun _ h => h⟩
  refine ⟨⟨⟨S.ok.sF, fun b x e => ?_, S.ok.sd, fun {b x} e => ?_, S.ok.Fd, fun {b x} e => ?_⟩, S.len, fun i c e => ?_, S.dist⟩, E⟩
  · dsimp only at e ⊢
    by_cases hb : b = p
    · subst hb; rw [upd_same] at e; cases e; exact hp
    · rw [upd_ne hb] at e; exact S.ok.s0 _ _ e
  · dsimp only at e ⊢
    have hb : b ≠ p := fun z => by rw [z, nF] at e; cases e
    rw [upd_ne hb]; exact S.ok.F0 e
  · dsimp only at e ⊢
    by_cases hb : b = p
    · subst hb; exact nd
    · rw [upd_ne hb] at e; exact S.ok.zd e
  · obtain ⟨s, e1, r⟩ := S.cell i c e
    refine ⟨s, e1, ?_⟩
    have ne : ∀ q, c.priv = true → s = some (.ref q) → q ≠ p := fun q pc z e2 => hn i c e pc (by rw [e1, z, e2])
    cases c with
    | no => trivial
    | val d => obtain ⟨v, e2, r⟩ := r; exact ⟨v, e2, R.ext E r⟩
    | own l =>
      obtain ⟨q, us, e2, e3, r, n1, n2, n3⟩ := r
      exact ⟨q, us, e2, e3, RA.ext E r, n1, (by dsimp only; rw [upd_ne (ne q rfl e2)]; exact n2), n3⟩
    | pin q l => obtain ⟨us, e2, e0, e3, r⟩ := r; exact ⟨us, e2, e0, e3, RA.ext E r⟩
    | obj q c fs =>
      obtain ⟨C, dx, vf, e2, e3, m, cl, na, r, n1, n2, n3⟩ := r
      exact ⟨C, dx, vf, e2, e3, m, cl, na, r.mono E.s0 E.da, n1, (by dsimp only; rw [upd_ne (ne q rfl e2)]; exact n2), n3⟩
    | dic l =>
      obtain ⟨q, us, e2, e3, r, n1, n2, n3⟩ := r
      exact ⟨q, us, e2, e3, r.mono E.s0 E.da, n1, (by dsimp only; rw [upd_ne (ne q rfl e2)]; exact n2), n3⟩
theorem se_fz {t : TE} {w : WF} (h : SF Γ t w) : SE Γ t (wFz w) := ⟨fun {T σ ρ Q Q'} S hw q => h.h S hw fun p vs T1 l ρ1 S1 e1 hp nF n0 nd hn r q1 => by
  obtain ⟨S2, E⟩ := S1.freezeNew hp nF n0 nd hn
  exact q (.ref p) ⟨T1.F, upd T1.H0 p (.lst vs), T1.Hd, T1.H, T1.P⟩ (.lst l) ρ1 S2 (e1.trans E) (.lst upd_same (RA.ext E r)) q1⟩
theorem ve_fz {t : TE} {w : WF} (h : VF Γ X e t w) : VE Γ X e t (wFz w) := ⟨h.pe, se_fz h.se⟩
/-! ### built-in functions -/
@[simp] def wCB (g : GN) (w : WA) : WE := fun ρ Q => w ρ fun as ρ1 => rsN ρ1 as fun ds => g ds fun z => Q z ρ1
@[simp] def wCBF (g : FN) (w : WA) : WF := fun ρ Q => w ρ fun as ρ1 => rsN ρ1 as fun ds => g ds fun z => Q z ρ1
variable {r : List V → Hp → VK → Prop} {x : Str} {p : Pos} {id T : String}
theorem se_cb {g : GN} (o : CS Γ r g) (h : SA Γ t w) : SE Γ (tCB r t) (wCB g w) := ⟨fun {T σ ρ Q Q'} S hw q => h.h S hw fun vs T1 as ρ1 S1 e1 r1 q1 => by
  obtain ⟨ds, rd, q1⟩ := S1.rsN r1 q1
  exact o.h S1.ok rd q1 fun v T2 d g2 r2 q2 => q v T2 d ρ1 (S1.grow g2) (e1.trans g2.ext) r2 q2⟩
theorem sf_cb {g : FN} (o : CSF Γ r g) (h : SA Γ t w) : SF Γ (tCB r t) (wCBF g w) := ⟨fun {T σ ρ Q Q'} S hw q => h.h S hw fun vs T1 as ρ1 S1 e1 r1 q1 => by
  obtain ⟨ds, rd, q1⟩ := S1.rsN r1 q1
  exact o.h S1.ok rd q1 fun p vs l n r2 q2 => sf_new S1 e1 q n r2 q2⟩
theorem ve_cb {g : GN} (hc : CallR X (.builtin id) r) (o : CS Γ r g) (hg : Gl X x) (hm : X.mg x = none) (hv : bootBuiltins x = some (.builtin id)) (ha : VA Γ X (e :: es) t w) (hn : x ≠ "__name__" := by decide) (hdb : (x == ("__debug__" : Str)) = false := by decide)
    (he : starEach (e :: es) X.env = (false, eval e X.env) :: starEach es X.env := by rfl) (hpl : (backTo pos (starEach es X.env)).any (·.1) = false := by rfl) : VE Γ X (.Call (.Name x p) (e :: es) [] pos) (tCB r t) (wCB g w) := ⟨pe_callB hc hg hm hv ha.pe hn hdb he hpl, se_cb o ha.se⟩
theorem vf_cb {g : FN} (hc : CallR X (.builtin id) r) (o : CSF Γ r g) (hg : Gl X x) (hm : X.mg x = none) (hv : bootBuiltins x = some (.builtin id)) (ha : VA Γ X (e :: es) t w) (hn : x ≠ "__name__" := by decide) (hdb : (x == ("__debug__" : Str)) = false := by decide)
    (he : starEach (e :: es) X.env = (false, eval e X.env) :: starEach es X.env := by rfl) (hpl : (backTo pos (starEach es X.env)).any (·.1) = false := by rfl) : VF Γ X (.Call (.Name x p) (e :: es) [] pos) (tCB r t) (wCBF g w) := ⟨pe_callB hc hg hm hv ha.pe hn hdb he hpl, sf_cb o ha.se⟩
theorem ve_ct {g : GN} (hc : CallR X (.type T) r) (o : CS Γ r g) (hg : Gl X x) (hm : X.mg x = none) (hv : bootBuiltins x = some (.type T)) (ha : VA Γ X (e :: es) t w) (hn : x ≠ "__name__" := by decide) (hdb : (x == ("__debug__" : Str)) = false := by decide)
    (he : starEach (e :: es) X.env = (false, eval e X.env) :: starEach es X.env := by rfl) (hpl : (backTo pos (starEach es X.env)).any (·.1) = false := by rfl) : VE Γ X (.Call (.Name x p) (e :: es) [] pos) (tCB r t) (wCB g w) := ⟨pe_callTy hc hg hm hv ha.pe hn hdb he hpl, se_cb o ha.se⟩
theorem vf_ct {g : FN} (hc : CallR X (.type T) r) (o : CSF Γ r g) (hg : Gl X x) (hm : X.mg x = none) (hv : bootBuiltins x = some (.type T)) (ha : VA Γ X (e :: es) t w) (hn : x ≠ "__name__" := by decide) (hdb : (x == ("__debug__" : Str)) = false := by decide)
    (he : starEach (e :: es) X.env = (false, eval e X.env) :: starEach es X.env := by rfl) (hpl : (backTo pos (starEach es X.env)).any (·.1) = false := by rfl) : VF Γ X (.Call (.Name x p) (e :: es) [] pos) (tCB r t) (wCBF g w) := ⟨pe_callTy hc hg hm hv ha.pe hn hdb he hpl, sf_cb o ha.se⟩
/-! ### items, fields -/
theorem ve_ix {i : Expr} {ti : TE} {wi : WO} (hK : X.K = Γ.K) (he : VO Γ X e te we) (hi : VO Γ X i ti wi) (hp : PlainIx i) : VE Γ X (.Subscript e i pos) (tOp (rIx Γ.K) te ti) (wOp gIx we wi) := ⟨pe_ix (kix_seq hK) he.pe hi.pe hp, se_op os_ix he.se hi.se⟩
@[simp] def wFld (f : Str) (w : WE) : WE := fun ρ Q => w ρ fun d ρ1 => match d with
  | .obj _ fs => oK (fs.lookup f) fun x => Q x ρ1
  | _ => False
theorem ve_fld {f : Str} {te : TE} {w : WE} (hK : X.K = Γ.K) (h : VE Γ X e te w) (hb : attributeBase e f X.env (eval e X.env) = eval e X.env) : VE Γ X (.Attribute e f pos) (tFld Γ.K te f) (wFld f w) := ⟨kpe_fld hK h.pe hb, ⟨fun {T σ ρ Q Q'} S hw q => h.se.h S hw fun v T1 d ρ1 S1 e1 r1 q1 => by
  cases d <;> first | exact q1.elim | skip
  obtain ⟨x, hx, q1⟩ := oK_of q1
  cases r1 with
  | obj h0 m cl na rf =>
    obtain ⟨v, hv, r⟩ := rf.lookup hx
    exact ⟨_, _, _, _, v, rfl, S1.ok.s0 _ _ h0, cl, na _ _ hv, hv, q v T1 x ρ1 S1 e1 r q1⟩⟩⟩
end
end
end Vl

namespace Vl
open PySem PySem.Spec PyProof.Rows L2 Hl

section
variable {Γ : Gx} {X : Cx} {T : Wo} {σ : L2.St} {ρ : Vn}
/-! ### one's own list is changed -/
theorem Sv.put {i : Nat} {p : Addr} {o' : HO} {c c' : Cell} (S : Sv Γ T σ ρ) (hi : ρ[i]? = some c) (pc : c.priv = true) (hs : σ[i]? = some (some (.ref p))) (nF : T.F p = none) (n0 : T.H0 p = none) (nd : T.Hd p = none)
    (r : ∀ T' : Wo, T'.F = T.F → T'.H0 = T.H0 → T'.Hd = T.Hd → T'.H p = some o' → CellR Γ T' (some (.ref p)) c') (hr : c'.priv = true) : Sv Γ ⟨T.F, T.H0, T.Hd, upd T.H p o', T.P⟩ σ (ρ.set i c') ∧ Ext Γ T ⟨T.F, T.H0, T.Hd, upd T.H p o', T.P⟩ := by
  have ne : ∀ {A : Hp} {b x}, A p = none → A b = some x → b ≠ p := fun hn e z => by rw [z, hn] at e; cases e
  refine ⟨⟨⟨fun b x e => ?_, fun b x e => ?_, fun b x e => ?_, S.ok.F0, S.ok.Fd, S.ok.zd⟩, by rw [List.length_set, S.len], fun j c1 e => ?_, fun j k q c1 c2 e1 e2 p1 p2 e3 e4 => ?_⟩, ⟨rfl, rfl, Same.refl _, fun _ h => h⟩⟩
  · dsimp only at e ⊢; rw [upd_ne (ne nF e)]; exact S.ok.sF _ _ e
  · dsimp only at e ⊢; rw [upd_ne (ne n0 e)]; exact S.ok.s0 _ _ e
  · dsimp only at e ⊢; rw [upd_ne (ne nd e)]; exact S.ok.sd _ _ e
  · rcases set_at e with ⟨rfl, hl, rfl⟩ | ⟨hj, e⟩
    · exact ⟨_, hs, r _ rfl rfl rfl upd_same⟩
    · obtain ⟨s, e1, r1⟩ := S.cell j c1 e
      refine ⟨s, e1, ?_⟩
      have nq : ∀ q, c1.priv = true → s = some (.ref q) → q ≠ p := fun q pq z z2 => hj (S.dist i j p c c1 hi e pc pq hs (by rw [e1, z, z2]))
      cases c1 with
      | no => trivial
      | val d => exact r1
      | own l => obtain ⟨q, us, e2, e3, r⟩ := r1; exact ⟨q, us, e2, (by dsimp only; rw [upd_ne (nq q rfl e2)]; exact e3), r⟩
      | pin q l => exact r1
      | obj q c fs => obtain ⟨C, dx, vf, e2, e3, r⟩ := r1; exact ⟨C, dx, vf, e2, (by dsimp only; rw [upd_ne (nq q rfl e2)]; exact e3), r⟩
      | dic l => obtain ⟨q, us, e2, e3, r⟩ := r1; exact ⟨q, us, e2, (by dsimp only; rw [upd_ne (nq q rfl e2)]; exact e3), r⟩
  · have f : ∀ {j : Nat} {c1 : Cell}, (ρ.set i c')[j]? = some c1 → c1.priv = true → ∃ c', ρ[j]? = some c' ∧ c'.priv = true := fun {j c1} e pq => by
      rcases set_at e with ⟨rfl, hl, rfl⟩ | ⟨hj, e⟩
      · exact ⟨c, hi, pc⟩
      · exact ⟨_, e, pq⟩
    obtain ⟨c1', f1, q1⟩ := f e1 p1
    obtain ⟨c2', f2, q2⟩ := f e2 p2
    exact S.dist j k q _ _ f1 f2 q1 q2 e3 e4
theorem Sv.ownAt {i : Nat} {k : List D → Prop} (S : Sv Γ T σ ρ) (h : cOwn (ρ.getD i .no) k) : ∃ p vs l, ρ[i]? = some (.own l) ∧ σ[i]? = some (some (.ref p)) ∧ T.H p = some (.lst vs) ∧ RA Γ T.H0 T.Hd vs l ∧ T.F p = none ∧ T.H0 p = none ∧ T.Hd p = none ∧ k l := by
  obtain ⟨l, e, h⟩ := cOwn_of h
  have e' := getD_of e (by simp)
  obtain ⟨s, e1, p, vs, e2, hp, r, n1, n2, n3⟩ := S.cell i _ e'
  exact ⟨p, vs, l, e', by rw [e1, e2], hp, r, n1, n2, n3, h⟩
theorem Sv.putL {i : Nat} {p : Addr} {vs : List V} {l l' : List D} (S : Sv Γ T σ ρ) (hi : ρ[i]? = some (.own l)) (hs : σ[i]? = some (some (.ref p))) (nF : T.F p = none) (n0 : T.H0 p = none) (nd : T.Hd p = none) (r : RA Γ T.H0 T.Hd vs l') :
    Sv Γ ⟨T.F, T.H0, T.Hd, upd T.H p (.lst vs), T.P⟩ σ (ρ.set i (.own l')) ∧ Ext Γ T ⟨T.F, T.H0, T.Hd, upd T.H p (.lst vs), T.P⟩ :=
  S.put hi rfl hs nF n0 nd (fun T' h1 h2 h3 h4 => ⟨p, vs, rfl, h4, by rw [h2, h3]; exact r, by rw [h1]; exact nF, by rw [h2]; exact n0, by rw [h3]; exact nd⟩) rfl
variable {i : Nat} {e : Expr} {te : TE} {we : WE}
@[simp] def wApp (i : Nat) (w : WE) : WE := fun ρ Q => cOwn (ρ.getD i .no) fun _ => w ρ fun d ρ1 => cOwn (ρ1.getD i .no) fun l => l.length < sizeLine ∧ Q .non (ρ1.set i (.own (l ++ [d])))
theorem se_app (h : SE Γ te we) : SE Γ (tBM Γ.K "list" rAppend (tVar i) (tCons te tNil)) (wApp i we) := ⟨fun {T σ ρ Q Q'} S hw q => by
  obtain ⟨p, vs, l, hi, hs, hp, r, nF, n0, nd, hw⟩ := S.ownAt hw
  refine ⟨_, hs, .inl ⟨rfl, vs, SqL.of hp⟩, h.h S hw fun v T1 d ρ1 S1 e1 r1 q1 => ?_⟩
  obtain ⟨p', vs', l', hi, hs', hp, r, nF, n0, nd, hz, hw⟩ := S1.ownAt q1
  rw [hs] at hs'; cases hs'
  obtain ⟨S2, e2⟩ := S1.putL (l' := l' ++ [d]) hi hs nF n0 nd (r.app (.cons r1 .nil))
  exact ⟨_, _, _, rfl, rfl, hp, by rw [r.len]; exact hz, q .non _ .non _ S2 (e1.trans e2) .non hw⟩⟩
@[simp] def wExt (i : Nat) (w : WO) : WE := fun ρ Q => cOwn (ρ.getD i .no) fun _ => w ρ fun a ρ1 => rs1 ρ1 a fun d => cOwn (ρ1.getD i .no) fun l => match d with
  | .lst m => l.length + m.length ≤ sizeLine ∧ Q .non (ρ1.set i (.own (l ++ m)))
  | _ => False
theorem se_ext {we : WO} (h : SO Γ te we) : SE Γ (tBM Γ.K "list" rExtend (tVar i) (tCons te tNil)) (wExt i we) := ⟨fun {T σ ρ Q Q'} S hw q => by
  obtain ⟨p, vs, l, hi, hs, hp, r, nF, n0, nd, hw⟩ := S.ownAt hw
  refine ⟨_, hs, .inl ⟨rfl, vs, SqL.of hp⟩, h.h S hw fun v T1 a ρ1 S1 e1 r1 q1 => ?_⟩
  obtain ⟨d, rd, q1⟩ := S1.rs1 r1 q1
  obtain ⟨p', vs', l', hi, hs', hp, r, nF, n0, nd, hw⟩ := S1.ownAt q1
  rw [hs] at hs'; cases hs'
  cases d <;> first | exact hw.elim | skip
  obtain ⟨b, us, rfl, hb, rb⟩ := rd.lst S1.ok
  obtain ⟨S2, e2⟩ := S1.putL hi hs nF n0 nd (r.app rb)
  exact ⟨_, _, _, _, rfl, rfl, hp, hb, by rw [r.len, rb.len]; exact hw.1, q .non _ .non _ S2 (e1.trans e2) .non hw.2⟩⟩
@[simp] def wPop (i : Nat) : WE := fun ρ Q => cOwn (ρ.getD i .no) fun l => oK (l[l.length - 1]?) fun d => Q d (ρ.set i (.own l.dropLast))
theorem RA.dropLast {H0 Hd : Hp} : ∀ {vs : List V} {l : List D}, RA Γ H0 Hd vs l → RA Γ H0 Hd vs.dropLast l.dropLast
  | _, _, .nil => .nil
  | _, _, .cons h .nil => .nil
  | _, _, .cons h (.cons h' t) => .cons h (RA.dropLast (.cons h' t))
theorem se_pop : SE Γ (tBM0 Γ.K "list" rPop (tVar i)) (wPop i) := ⟨fun {T σ ρ Q Q'} S hw q => by
  obtain ⟨p, vs, l, hi, hs, hp, r, nF, n0, nd, hw⟩ := S.ownAt hw
  obtain ⟨d, hd, hw⟩ := oK_of hw
  obtain ⟨v, hv, rv⟩ := r.get hd
  obtain ⟨S2, e2⟩ := S.putL (l' := l.dropLast) hi hs nF n0 nd r.dropLast
  exact ⟨_, hs, .inl ⟨rfl, vs, SqL.of hp⟩, _, _, v, rfl, rfl, hp, by rw [r.len]; exact hv, q v _ d _ S2 e2 (R.ext e2 rv) hw⟩⟩
@[simp] def wPopAt (i : Nat) (w : WE) : WE := fun ρ Q => cOwn (ρ.getD i .no) fun _ => w ρ fun d ρ1 => match d with
  | .int j => cOwn (ρ1.getD i .no) fun l => (-(2 ^ 63) ≤ j ∧ j < 2 ^ 63) ∧ oK (seqIndex? j l.length) fun k => oK (l[k]?) fun d => Q d (ρ1.set i (.own (l.eraseIdx k)))
  | _ => False
theorem se_popAt (h : SE Γ te we) : SE Γ (tBM Γ.K "list" rPopAt (tVar i) (tCons te tNil)) (wPopAt i we) := ⟨fun {T σ ρ Q Q'} S hw q => by
  obtain ⟨p, vs, l, hi, hs, hp, r, nF, n0, nd, hw⟩ := S.ownAt hw
  refine ⟨_, hs, .inl ⟨rfl, vs, SqL.of hp⟩, h.h S hw fun v T1 d ρ1 S1 e1 r1 q1 => ?_⟩
  cases d <;> first | exact q1.elim | skip
  cases r1
  obtain ⟨p', vs', l', hi, hs', hp, r, nF, n0, nd, hb, hw⟩ := S1.ownAt q1
  rw [hs] at hs'; cases hs'
  obtain ⟨k, hk, hw⟩ := oK_of hw
  obtain ⟨d, hd, hw⟩ := oK_of hw
  obtain ⟨v, hv, rv⟩ := r.get hd
  obtain ⟨S2, e2⟩ := S1.putL (l' := l'.eraseIdx k) hi hs nF n0 nd (r.eraseIdx k)
  exact ⟨_, _, _, k, v, rfl, rfl, hp, hb.1, hb.2, by rw [r.len]; exact hk, hv, q v _ d _ S2 (e1.trans e2) (R.ext e2 rv) hw⟩⟩
/-! ### statements -/
section
variable {st : Stmt} {sts rest : List Stmt} {t u : TS} {w z : WS} {pos : Pos}
@[simp] def wNext : WS := fun D ρ => D.nx ρ
@[simp] def wSeq (w z : WS) : WS := fun D ρ => w { D with nx := z D } ρ
@[simp] def wBrk : WS := fun D ρ => D.bk ρ
@[simp] def wCnt : WS := fun D ρ => D.ct ρ
@[simp] def wDrop (w : WE) : WS := fun D ρ => w ρ fun _ ρ1 => D.nx ρ1
@[simp] def wRet (w : WE) : WS := fun D ρ => w ρ fun d _ => D.rt d
@[simp] def wRetN : WS := fun D _ => D.rt .non
@[simp] def wIf (c : WT) (w z : WS) : WS := fun D ρ => c ρ fun b ρ1 => (b = true → w D ρ1) ∧ (b = false → z D ρ1)
@[simp] def wNev : WS := fun _ _ => False
theorem vb_nil : VB Γ X [] tNext wNext := ⟨pss_nil, ⟨fun {T σ ρ D D'} S h a b c d => a T σ ρ S .refl h⟩⟩
theorem vs_pass : VS Γ X (.Pass pos) tNext wNext := ⟨ps_pass, ⟨fun {T σ ρ D D'} S h a b c d => a T σ ρ S .refl h⟩⟩
theorem vs_doc {x j pos pos'} : VS Γ X (.Expr (.Constant (.str x) j pos) pos') tNext wNext := ⟨ps_doc, ⟨fun {T σ ρ D D'} S h a b c d => a T σ ρ S .refl h⟩⟩
theorem vs_break : VS Γ X (.Break pos) tBreak wBrk := ⟨ps_break, ⟨fun {T σ ρ D D'} S h a b c d => c T σ ρ S .refl h⟩⟩
theorem vs_cont : VS Γ X (.Continue pos) tCont wCnt := ⟨ps_continue, ⟨fun {T σ ρ D D'} S h a b c d => d T σ ρ S .refl h⟩⟩
theorem ss_seq (h : SS Γ t w) (h' : SS Γ u z) : SS Γ (tSeq t u) (wSeq w z) := ⟨fun {T σ ρ D D'} S hw a b c d =>
  h.h S hw (fun T1 σ1 ρ1 S1 e1 q1 => h'.h S1 q1 (fun T2 σ2 ρ2 S2 e2 q2 => a T2 σ2 ρ2 S2 (e1.trans e2) q2) (fun T2 v x o2 e2 r2 q2 => b T2 v x o2 (e1.trans e2) r2 q2) (fun T2 σ2 ρ2 S2 e2 q2 => c T2 σ2 ρ2 S2 (e1.trans e2) q2) (fun T2 σ2 ρ2 S2 e2 q2 => d T2 σ2 ρ2 S2 (e1.trans e2) q2)) b c d⟩
theorem vb_cons (h : VS Γ X st t w) (h' : VB Γ X rest u z) : VB Γ X (st :: rest) (tSeq t u) (wSeq w z) := ⟨pss_cons h.pe h'.pe, ss_seq h.se h'.se⟩
theorem vb_one (h : VS Γ X st t w) : VB Γ X [st] t w := ⟨pss_one h.pe, h.se⟩
theorem vs_expr (h : VE Γ X e te we) (hs : swapsWith e none pos.line X.env = pure false := by rfl) : VS Γ X (.Expr e pos) (tDrop te) (wDrop we) := ⟨ps_expr h.pe hs, ⟨fun {T σ ρ D D'} S hw a b c d => h.se.h S hw fun v T1 x ρ1 S1 e1 r1 q1 => a T1 σ ρ1 S1 e1 q1⟩⟩
theorem vs_ret (h : VE Γ X e te we) : VS Γ X (.Return (some e) pos) (tRet te) (wRet we) := ⟨ps_ret h.pe, ⟨fun {T σ ρ D D'} S hw a b c d => h.se.h S hw fun v T1 x ρ1 S1 e1 r1 q1 => b T1 v x S1.ok e1 r1 q1⟩⟩
theorem vs_retN : VS Γ X (.Return none pos) tRetN wRetN := ⟨ps_retN, ⟨fun {T σ ρ D D'} S hw a b c d => b T .non .non S.ok .refl .non hw⟩⟩
theorem ss_if {tc : TT} {wc : WT} (hc : ST Γ tc wc) (h : SS Γ t w) (h' : SS Γ u z) : SS Γ (tIfS tc t u) (wIf wc w z) := ⟨fun {T σ ρ D D'} S hw a b c d => hc.h S hw fun k T1 ρ1 S1 e1 q1 => by
  have fa := fun T2 σ2 ρ2 S2 e2 q2 => a T2 σ2 ρ2 S2 (Ext.trans (Γ := Γ) e1 e2) q2
  have fb := fun T2 v x o2 e2 r2 q2 => b T2 v x o2 (Ext.trans (Γ := Γ) e1 e2) r2 q2
  have fc := fun T2 σ2 ρ2 S2 e2 q2 => c T2 σ2 ρ2 S2 (Ext.trans (Γ := Γ) e1 e2) q2
  have fd := fun T2 σ2 ρ2 S2 e2 q2 => d T2 σ2 ρ2 S2 (Ext.trans (Γ := Γ) e1 e2) q2
  cases k with
  | true => exact iteT (h.h S1 (q1.1 rfl) fa fb fc fd)
  | false => exact iteF (h'.h S1 (q1.2 rfl) fa fb fc fd)⟩
theorem vs_if {c : Expr} {x y : List Stmt} {tc : TT} {wc : WT} (hc : VT Γ X c tc wc) (h : VB Γ X x t w) (h' : VB Γ X y u z) : VS Γ X (.If c x y pos) (tIfS tc t u) (wIf wc w z) := ⟨ps_if hc.pe h.pe h'.pe, ss_if hc.se h.se h'.se⟩
theorem vs_nev : VS Γ X st tNever wNev := ⟨ps_never, ⟨fun {T σ ρ D D'} S hw a b c d => hw.elim⟩⟩
theorem vb_nev : VB Γ X sts tNever wNev := ⟨pss_never, ⟨fun {T σ ρ D D'} S hw a b c d => hw.elim⟩⟩
/-! ### stores -/
abbrev WG := D → Vn → (Vn → Prop) → Prop
abbrev WGs := List D → Vn → (Vn → Prop) → Prop
@[simp] def gV (i : Nat) : WG := fun d ρ Q => Q (ρ.set i (.val d))
@[simp] def gNilV : WGs := fun ds ρ Q => match ds with
  | [] => Q ρ
  | _ => False
@[simp] def gConsV (w : WG) (u : WGs) : WGs := fun ds ρ Q => match ds with
  | d :: r => w d ρ fun ρ1 => u r ρ1 Q
  | _ => False
@[simp] def gTupV (n : Nat) (u : WGs) : WG := fun d ρ Q => match d with
  | .tup l => l.length = n ∧ u l ρ Q
  | _ => False
def SameOut (ts : List Nat) (σ σ' : L2.St) : Prop := σ'.length = σ.length ∧ ∀ j, j ∉ ts → σ'[j]? = σ[j]?
structure SG (Γ : Gx) (t : TG) (ts : List Nat) (w : WG) : Prop where
  h : ∀ {T : Wo} {σ : L2.St} {ρ : Vn} {v : V} {d : D} {Q : Vn → Prop} {Q' : L2.St → Hp → Prop}, Sv Γ T σ ρ → R Γ T.H0 T.Hd v d → w d ρ Q → (∀ σ' ρ', Sv Γ T σ' ρ' → SameOut ts σ σ' → Q ρ' → Q' σ' T.H) → t v σ T.H Q'
structure SGs (Γ : Gx) (t : TGs) (ts : List Nat) (w : WGs) : Prop where
  h : ∀ {T : Wo} {σ : L2.St} {ρ : Vn} {v : List V} {d : List D} {Q : Vn → Prop} {Q' : L2.St → Hp → Prop}, Sv Γ T σ ρ → RA Γ T.H0 T.Hd v d → w d ρ Q → (∀ σ' ρ', Sv Γ T σ' ρ' → SameOut ts σ σ' → Q ρ' → Q' σ' T.H) → t v σ T.H Q'
structure VG (Γ : Gx) (X : Cx) (e : Expr) (t : TG) (ts : List Nat) (w : WG) : Prop where
  pe : PG X e t
  se : SG Γ t ts w
structure VGs (Γ : Gx) (X : Cx) (es : List Expr) (t : TGs) (ts : List Nat) (w : WGs) : Prop where
  pe : PGs X es t
  se : SGs Γ t ts w
theorem SameOut.trans {ts us : List Nat} {a b c : L2.St} (h : SameOut ts a b) (h' : SameOut us b c) : SameOut (ts ++ us) a c := ⟨h'.1.trans h.1, fun j hj => by
  rw [List.mem_append, not_or] at hj
  rw [h'.2 j hj.2, h.2 j hj.1]⟩
theorem sg_name {i : Nat} : SG Γ (gName i) [i] (gV i) := ⟨fun {T σ ρ v d Q Q'} S r hw q => q _ _ (S.setVal r) ⟨by rw [List.length_set], fun j hj => List.getElem?_set_ne (fun z => hj (by simp [z]))⟩ hw⟩
theorem vg_name {i : Nat} {x : Str} (hN : X.N.Nodup) (hi : X.N[i]? = some x) (hx : Loc X.env.scope x) (hf : X.fn x = true ∨ X.env.scope.names.lookup x = some .local := by first | exact .inl rfl | exact .inr rfl | assumption) : VG Γ X (.Name x pos) (gName i) [i] (gV i) := ⟨pg_name hN hi hx hf, sg_name⟩
theorem vgs_nil : VGs Γ X [] gNil [] gNilV := ⟨pgs_nil, ⟨fun {T σ ρ v d Q Q'} S r hw q => by
  cases d with
  | nil => cases r; exact ⟨rfl, q _ _ S ⟨rfl, fun _ _ => rfl⟩ hw⟩
  | cons _ _ => exact hw.elim⟩⟩
theorem vgs_cons {e : Expr} {es : List Expr} {t : TG} {u : TGs} {ts us : List Nat} {w : WG} {z : WGs} (h : VG Γ X e t ts w) (h' : VGs Γ X es u us z)
    (hs : (assignEach (e :: es) X.env).map (·.2) = assign e X.env :: (assignEach es X.env).map (·.2) := by rfl) : VGs Γ X (e :: es) (gCons t u) (ts ++ us) (gConsV w z) := ⟨pgs_cons h.pe h'.pe hs, ⟨fun {T σ ρ v d Q Q'} S r hw q => by
  cases d with
  | nil => exact hw.elim
  | cons d ds =>
    cases r with
    | cons r rs => exact ⟨_, _, rfl, h.se.h S r hw fun σ1 ρ1 S1 so1 q1 => h'.se.h S1 rs q1 fun σ2 ρ2 S2 so2 q2 => q σ2 ρ2 S2 (so1.trans so2) q2⟩⟩⟩
theorem gTupV_ok {u : TGs} {ts : List Nat} {n : Nat} {z : WGs} (h : SGs Γ u ts z) : SG Γ (gTup Γ.K n u) ts (gTupV n z) := ⟨fun {T σ ρ v d Q Q'} S r hw q => by
  cases d <;> first | exact hw.elim | skip
  cases r with
  | tup hs ra => exact ⟨_, _, rfl, seqT S.ok.s0 hs, by rw [ra.len]; exact hw.1, h.h S ra hw.2 q⟩⟩
theorem vg_tup {es : List Expr} {k : Nat} {u : TGs} {ts : List Nat} {n : Nat} {z : WGs} (hK : X.K = Γ.K) (hc : X.calm = true) (h : VGs Γ X es u ts z) (hn : (assignEach es X.env).length = n := by rfl) (hst : (assignEach es X.env).findIdx? (·.1) = none := by rfl) : VG Γ X (.Tuple es k pos) (gTup Γ.K n u) ts (gTupV n z) := ⟨kpg_tup hK hc h.pe hn hst, gTupV_ok h.se⟩
@[simp] def wSet (w : WE) (g : WG) : WS := fun D ρ => w ρ fun d ρ1 => g d ρ1 D.nx
@[simp] def wSetF (i : Nat) (w : WF) : WS := fun D ρ => w ρ fun l ρ1 => D.nx (ρ1.set i (.own l))
theorem ss_set {t : TE} {w : WE} {g : TG} {ts : List Nat} {wg : WG} (h : SE Γ t w) (hg : SG Γ g ts wg) : SS Γ (tAsg t g) (wSet w wg) := ⟨fun {T σ ρ D D'} S hw a b c d => h.h S hw fun v T1 x ρ1 S1 e1 r1 q1 => hg.h S1 r1 q1 fun σ' ρ' S2 _ q2 => a T1 σ' ρ' S2 e1 q2⟩
theorem ss_setF {i : Nat} {t : TE} {w : WF} (h : SF Γ t w) : SS Γ (tAsg t (gName i)) (wSetF i w) := ⟨fun {T σ ρ D D'} S hw a b c d => h.h S hw fun p vs T1 l ρ1 S1 e1 hp nF n0 nd hn r q1 =>
  a T1 _ _ (S1.set (c := .own l) ⟨p, vs, rfl, hp, r, nF, n0, nd⟩ fun _ j p' c' e2 e3 pc e4 => by cases e2; exact absurd e4 (hn j c' e3 pc)) e1 q1⟩
theorem vs_set {i : Nat} {x : Str} {pos' : Pos} (hN : X.N.Nodup) (hi : X.N[i]? = some x) (hx : Loc X.env.scope x) (h : VE Γ X e te we) (hs : swapsWith e (some (.Name x pos')) pos.line X.env = pure false := by rfl) (hf : X.fn x = true ∨ X.env.scope.names.lookup x = some .local := by first | exact .inl rfl | exact .inr rfl | assumption) :
    VS Γ X (.Assign [.Name x pos'] e pos) (tAsg te (gName i)) (wSet we (gV i)) := ⟨ps_set hN hi hx h.pe hs hf, ss_set h.se sg_name⟩
theorem vs_setF {i : Nat} {x : Str} {pos' : Pos} {we : WF} (hN : X.N.Nodup) (hi : X.N[i]? = some x) (hx : Loc X.env.scope x) (h : VF Γ X e te we) (hs : swapsWith e (some (.Name x pos')) pos.line X.env = pure false := by rfl) (hf : X.fn x = true ∨ X.env.scope.names.lookup x = some .local := by first | exact .inl rfl | exact .inr rfl | assumption) :
    VS Γ X (.Assign [.Name x pos'] e pos) (tAsg te (gName i)) (wSetF i we) := ⟨ps_set hN hi hx h.pe hs hf, ss_setF h.se⟩
theorem vs_asg {tg : Expr} {g : TG} {ts : List Nat} {wg : WG} (h : VE Γ X e te we) (hg : VG Γ X tg g ts wg) (hs : swapsWithSole [tg] e pos.line X.env = pure false := by rfl) (hw : swappedStores [tg] e X.env = pure none := by rfl)
    (h1 : (assignEach [tg] X.env).map (·.2) = [assign tg X.env] := by rfl) : VS Γ X (.Assign [tg] e pos) (tAsg te g) (wSet we wg) := ⟨ps_asg h.pe hg.pe hs hw h1, ss_set h.se hg.se⟩
/-- x += e -/
@[simp] def wAug (i : Nat) (f : Int → Int → Int) (w : WE) : WS := fun D ρ => cVal (ρ.getD i .no) fun x => w ρ fun y ρ1 => match x, y with
  | .int a, .int b => D.nx (ρ1.set i (.val (.int (f a b))))
  | _, _ => False
theorem ss_aug {i : Nat} {f : Int → Int → Int} (h : SE Γ te we) : SS Γ (tAug i te (ipI f)) (wAug i f we) := ⟨fun {T σ ρ D D'} S hw a b c d => by
  obtain ⟨x, e, hw⟩ := cVal_of hw
  obtain ⟨s, e1, v, e2, r⟩ := S.cell i _ (getD_of e (by simp))
  refine ⟨v, by rw [e1, e2], h.h S hw fun v' T1 y ρ1 S1 e1 r1 q1 => ?_⟩
  cases x <;> cases y <;> first | exact q1.elim | skip
  cases r; cases r1
  exact ⟨_, _, rfl, rfl, a T1 _ _ (S1.setVal (.int _)) e1 q1⟩⟩
/-- x, y = a, b -/
@[simp] def wPar (i j : Nat) (w : WA) : WS := fun D ρ => w ρ fun as ρ1 => shN as fun ds => match ds with
  | [a, b] => D.nx ((ρ1.set i (.val a)).set j (.val b))
  | _ => False
theorem ss_par {i j : Nat} {ta : TA} {wa : WA} (h : SA Γ ta wa) : SS Γ (tPar i j ta) (wPar i j wa) := ⟨fun {T σ ρ D D'} S hw a b c d => h.h S hw fun vs T1 as ρ1 S1 e1 r1 q1 => by
  obtain ⟨ds, r, q1⟩ := shN_of r1 q1
  match ds, q1, r with
  | [x, y], q1, .cons rx (.cons ry .nil) => exact ⟨_, _, rfl, a T1 _ _ ((S1.setVal rx).setVal ry) e1 q1⟩⟩
/-! ### one's own list is shared from here on -/
@[simp] def frz (i : Nat) (ρ : Vn) : Vn := match ρ.getD i .no with
  | .own l => ρ.set i (.val (.lst l))
  | _ => ρ
theorem Sv.frz {i : Nat} (S : Sv Γ T σ ρ) : ∃ T', T'.H = T.H ∧ Sv Γ T' σ (frz i ρ) ∧ Ext Γ T T' := by
  unfold Vl.frz
  split
  · rename_i l e
    have e' := getD_of e (by simp)
    obtain ⟨s, e1, p, vs, e2, hp, r, nF, n0, nd⟩ := S.cell i _ e'
    subst e2
    have S1 := S.forget (i := i)
    obtain ⟨S2, E⟩ := S1.freezeNew hp nF n0 nd fun j c ec pc z => by
      rcases set_at ec with ⟨rfl, hl, rfl⟩ | ⟨hj, ec⟩
      · cases pc
      · exact hj (S.dist i j p _ c e' ec rfl pc e1 z)
    refine ⟨⟨T.F, upd T.H0 p (.lst vs), T.Hd, T.H, T.P⟩, rfl, ?_, E⟩
    have S3 := S2.re (i := i) (c := .val (.lst l)) (fun s hs _ => by rw [e1] at hs; cases hs; exact ⟨_, rfl, .lst upd_same (RA.ext E r)⟩) fun z => nomatch z
    rwa [List.set_set] at S3
  · exact ⟨T, rfl, S, .refl⟩
@[simp] def wFrz (i : Nat) (w : WS) : WS := fun D ρ => w D (frz i ρ)
theorem ss_frz {i : Nat} (h : SS Γ t w) : SS Γ t (wFrz i w) := ⟨fun {T σ ρ D D'} S hw a b c d => by
  obtain ⟨T1, e, S1, E⟩ := S.frz (i := i)
  rw [← e]
  exact h.h S1 hw (fun T2 σ2 ρ2 S2 e2 q2 => a T2 σ2 ρ2 S2 (E.trans e2) q2) (fun T2 v x o2 e2 r2 q2 => b T2 v x o2 (E.trans e2) r2 q2) (fun T2 σ2 ρ2 S2 e2 q2 => c T2 σ2 ρ2 S2 (E.trans e2) q2) (fun T2 σ2 ρ2 S2 e2 q2 => d T2 σ2 ρ2 S2 (E.trans e2) q2)⟩
theorem vs_frz (i : Nat) (h : VS Γ X st t w) : VS Γ X st t (wFrz i w) := ⟨h.pe, ss_frz h.se⟩
theorem vb_frz (i : Nat) (h : VB Γ X sts t w) : VB Γ X sts t (wFrz i w) := ⟨h.pe, ss_frz h.se⟩
end
end
end Vl

namespace Vl
open PySem PySem.Spec PyProof.Rows L2 Hl

section
variable {Γ : Gx} {X : Cx} {T : Wo} {σ : L2.St} {ρ : Vn}
/-! ### what a loop walks -/
abbrev WI := Vn → (List D → Vn → Prop) → Prop
structure Lat (Γ : Gx) (T T' : Wo) : Prop where
  ok : T'.Ok
  f : Same T.F T'.F
  s0 : Same T.H0 T'.H0
  da : ∀ a, Γ.DA T.Hd a → Γ.DA T'.Hd a
structure Its (Γ : Gx) (T : Wo) (J : It) (ds : List D) : Prop where
  go : ∀ T', Lat Γ T T' → ∀ i, i < ds.length → J.go i T'.H
  stop : ∀ T', Lat Γ T T' → J.stop ds.length T'.H
  yld : ∀ T', Lat Γ T T' → ∀ i d x H', ds[i]? = some d → J.yld i T'.H x H' → ∃ T'', Gr T' T'' ∧ T''.H = H' ∧ R Γ T''.H0 T''.Hd x d
structure SI (Γ : Gx) (t : TI) (w : WI) : Prop where
  h : ∀ {T : Wo} {σ : L2.St} {ρ : Vn} {Q : List D → Vn → Prop} {Q' : It → Hp → Prop}, Sv Γ T σ ρ → w ρ Q → (∀ J T' ds ρ', Sv Γ T' σ ρ' → Ext Γ T T' → Its Γ T' J ds → Q ds ρ' → Q' J T'.H) → t σ T.H Q'
structure VI (Γ : Gx) (X : Cx) (tg e : Expr) (t : TI) (w : WI) : Prop where
  pe : PI X tg e t
  se : SI Γ t w
theorem Lat.ext {R1 : Gx} {T T' : Wo} (l : Lat R1 T T') {vs : List V} {ds : List D} (h : RA R1 T.H0 T.Hd vs ds) : RA R1 T'.H0 T'.Hd vs ds := h.mono l.s0 l.da
/-- a list that stands (shared or pinned), a tuple -/
@[simp] def cStd : Cell → (D → Prop) → Prop
  | .val d, k => k d
  | .pin _ l, k => k (.lst l)
  | _, _ => False
@[simp] def rsW (ρ : Vn) : AI → (D → Prop) → Prop
  | .d d, k => k d
  | .sl i, k => cStd (ρ.getD i .no) k
@[simp] def itD : D → (List D → Prop) → Prop
  | .lst l, k => k l
  | .tup l, k => k l
  | _, _ => False
@[simp] def wIt (w : WO) : WI := fun ρ Q => w ρ fun a ρ1 => rsW ρ1 a fun d => itD d fun l => Q l ρ1
inductive Std (Γ : Gx) (T : Wo) : V → D → Prop
  | sh {v d} : R Γ T.H0 T.Hd v d → Std Γ T v d
  | pi {p vs l} : T.F p = some (.lst vs) → RA Γ T.H0 T.Hd vs l → Std Γ T (.ref p) (.lst l)
theorem Sv.rsW {v : V} {a : AI} {k : D → Prop} (S : Sv Γ T σ ρ) (ha : AR Γ T σ v a) (h : rsW ρ a k) : ∃ d, Std Γ T v d ∧ k d := by
  cases a with
  | d d => exact ⟨d, .sh ha, h⟩
  | sl i =>
    have h : cStd (ρ.getD i .no) k := h
    cases e : ρ.getD i .no with
    | val d =>
      rw [e] at h
      obtain ⟨s, e1, v', e2, r⟩ := S.cell i _ (getD_of e (by simp))
      rw [show σ[i]? = some (some v) from ha] at e1
      cases e1; cases e2
      exact ⟨d, .sh r, h⟩
    | pin p l =>
      rw [e] at h
      obtain ⟨s, e1, vs, e2, _, hp, r⟩ := S.cell i _ (getD_of e (by simp))
      rw [show σ[i]? = some (some v) from ha] at e1
      cases e1; cases e2
      exact ⟨_, .pi hp r, h⟩
    | _ => rw [e] at h; exact h.elim
theorem lt_at {vs : List V} {ds : List D} {i : Nat} {H0 Hd : Hp} (r : RA Γ H0 Hd vs ds) (h : i < ds.length) : ∃ x, vs[i]? = some x := ⟨_, List.getElem?_eq_getElem (by rw [r.len]; exact h)⟩
theorem its_list {p : Addr} {vs : List V} {ds : List D} (hs : ∀ T', Lat Γ T T' → SqL Γ.K T'.H p vs) (r : RA Γ T.H0 T.Hd vs ds) : Its Γ T (Itl Γ.K p) ds := by
  refine ⟨fun T' l i hi => ?_, fun T' l => ⟨vs, hs T' l, by rw [r.len]; exact Nat.le_refl _⟩, fun T' l i d x H' hd hy => ?_⟩
  · obtain ⟨x, hx⟩ := lt_at r hi
    exact ⟨vs, x, hs T' l, hx⟩
  · obtain ⟨v, hv, rv⟩ := (l.ext r).get hd
    have z := hy.2 vs (hs T' l)
    rw [hv] at z; cases z
    exact ⟨T', .refl l.ok, hy.1.symm, rv⟩
theorem its_tup {p : Addr} {vs : List V} {ds : List D} (hs : ∀ T', Lat Γ T T' → SqT Γ.K T'.H p vs) (r : RA Γ T.H0 T.Hd vs ds) : Its Γ T (Itt Γ.K p) ds := by
  refine ⟨fun T' l i hi => ?_, fun T' l => ⟨vs, hs T' l, by rw [r.len]; exact Nat.le_refl _⟩, fun T' l i d x H' hd hy => ?_⟩
  · obtain ⟨x, hx⟩ := lt_at r hi
    exact ⟨vs, x, hs T' l, hx⟩
  · obtain ⟨v, hv, rv⟩ := (l.ext r).get hd
    have z := hy.2 vs (hs T' l)
    rw [hv] at z; cases z
    exact ⟨T', .refl l.ok, hy.1.symm, rv⟩
@[simp] def wItL (w : WO) : WI := fun ρ Q => w ρ fun a ρ1 => rsW ρ1 a fun d => match d with
  | .lst l => Q l ρ1
  | _ => False
@[simp] def wItT (w : WO) : WI := fun ρ Q => w ρ fun a ρ1 => rsW ρ1 a fun d => match d with
  | .tup l => Q l ρ1
  | _ => False
theorem si_list {t : TE} {w : WO} (h : SO Γ t w) : SI Γ (iList Γ.K t) (wItL w) := ⟨fun {T σ ρ Q Q'} S hw q => h.h S hw fun v T1 a ρ1 S1 e1 r1 q1 => by
  obtain ⟨d, rd, q1⟩ := S1.rsW r1 q1
  cases d <;> first | exact q1.elim | skip
  cases rd with
  | sh r =>
    cases r with
    | lst hp ra => exact ⟨_, rfl, ⟨_, SqL.of (S1.ok.s0 _ _ hp)⟩, q _ T1 _ ρ1 S1 e1 (its_list (fun T' l => SqL.of (l.ok.s0 _ _ (l.s0 _ _ hp))) ra) q1⟩
  | pi hp ra => exact ⟨_, rfl, ⟨_, SqL.of (S1.ok.sF _ _ hp)⟩, q _ T1 _ ρ1 S1 e1 (its_list (fun T' l => SqL.of (l.ok.sF _ _ (l.f _ _ hp))) ra) q1⟩⟩
theorem si_tup {t : TE} {w : WO} (h : SO Γ t w) : SI Γ (iTup Γ.K t) (wItT w) := ⟨fun {T σ ρ Q Q'} S hw q => h.h S hw fun v T1 a ρ1 S1 e1 r1 q1 => by
  obtain ⟨d, rd, q1⟩ := S1.rsW r1 q1
  cases d <;> first | exact q1.elim | skip
  cases rd with
  | sh r =>
    cases r with
    | tup hp ra => exact ⟨_, rfl, ⟨_, seqT S1.ok.s0 hp⟩, q _ T1 _ ρ1 S1 e1 (its_tup (fun T' l => seqT l.ok.s0 (seqT l.s0 hp)) ra) q1⟩⟩
/-- a list or a tuple: told by what comes -/
def iSeq (K : PySem.W.Frag) (tl : TE) : TI := fun σ H R => tl σ H fun x H1 => (∃ a, x = .ref a ∧ (∃ xs, SqL K H1 a xs) ∧ R (Itl K a) H1) ∨ (∃ a, x = .ref a ∧ (∃ xs, SqT K H1 a xs) ∧ R (Itt K a) H1)
theorem pi_seq {tg l : Expr} {tl : TE} (hl : PE X l tl) : PI X tg l (iSeq X.K tl) := by
  refine ⟨fun pins s σ H R I h => ?_⟩
  refine thn (hl.run pins s σ H _ I h) fun v s1 ⟨x, H1, I1, r1, q1⟩ => ?_
  rcases q1 with ⟨a, e, ⟨xs, hq⟩, q⟩ | ⟨a, e, ⟨xs, hq⟩, q⟩
  · subst e
    cases r1
    obtain ⟨its, rv, p, hz⟩ := I1.list hq
    refine wpAny_pyIter_list p.isList ?_
    refine ⟨s1.heap.objs.size, [s1.heap.objs.size], _, _, H1, rfl, I1.kept (t' := s1.toks) fun b o e => Heap.get?_push_of_some _ e, turn_list a _, ⟨_, Heap.get?_push_size _ rfl, rfl, rfl⟩, fun b hb => ?_, q⟩
    have e : b = s1.heap.objs.size := by simpa using hb
    subst e
    exact I1.fpOk (Nat.le_refl _) (I1.hok.fresh (Nat.le_refl _))
  · subst e
    cases r1
    obtain ⟨its, rv, p, hz⟩ := I1.tuple hq
    refine wpAny_pyIter_tuple (show s1.heap.IsTuple a its.toArray from p) ?_
    refine ⟨s1.heap.objs.size, [s1.heap.objs.size], _, _, H1, rfl, I1.kept (t' := s1.toks) fun b o e => Heap.get?_push_of_some _ e, turn_tuple a _, ⟨_, Heap.get?_push_size _ rfl, rfl, rfl⟩, fun b hb => ?_, q⟩
    have e : b = s1.heap.objs.size := by simpa using hb
    subst e
    exact I1.fpOk (Nat.le_refl _) (I1.hok.fresh (Nat.le_refl _))
theorem si_seq {t : TE} {w : WO} (h : SO Γ t w) : SI Γ (iSeq Γ.K t) (wIt w) := ⟨fun {T σ ρ Q Q'} S hw q => h.h S hw fun v T1 a ρ1 S1 e1 r1 q1 => by
  obtain ⟨d, rd, q1⟩ := S1.rsW r1 q1
  cases d <;> first | exact q1.elim | skip
  · cases rd with
    | sh r =>
      cases r with
      | tup hp ra => exact .inr ⟨_, rfl, ⟨_, seqT S1.ok.s0 hp⟩, q _ T1 _ ρ1 S1 e1 (its_tup (fun T' l => seqT l.ok.s0 (seqT l.s0 hp)) ra) q1⟩
  · cases rd with
    | sh r =>
      cases r with
      | lst hp ra => exact .inl ⟨_, rfl, ⟨_, SqL.of (S1.ok.s0 _ _ hp)⟩, q _ T1 _ ρ1 S1 e1 (its_list (fun T' l => SqL.of (l.ok.s0 _ _ (l.s0 _ _ hp))) ra) q1⟩
    | pi hp ra => exact .inl ⟨_, rfl, ⟨_, SqL.of (S1.ok.sF _ _ hp)⟩, q _ T1 _ ρ1 S1 e1 (its_list (fun T' l => SqL.of (l.ok.sF _ _ (l.f _ _ hp))) ra) q1⟩⟩
theorem vi_seq {tg l : Expr} {tl : TE} {w : WO} (hK : X.K = Γ.K) (h : VO Γ X l tl w) : VI Γ X tg l (iSeq Γ.K tl) (wIt w) := ⟨by rw [← hK]; exact pi_seq h.pe, si_seq h.se⟩
/-- range -/
def rgD (lo : Int) (n : Nat) : List D := (List.range n).map fun i => .int (lo + (i : Nat))
theorem rgD_length {lo : Int} {n : Nat} : (rgD lo n).length = n := by simp [rgD]
theorem its_range {lo : Int} {n : Nat} : Its Γ T (Itr lo n) (rgD lo n) := by
  refine ⟨fun T' l i hi => by rw [rgD_length] at hi; exact hi, fun T' l => by rw [rgD_length]; exact Nat.le_refl _, fun T' l i d x H' hd hy => ?_⟩
  obtain ⟨rfl, rfl⟩ := hy
  have hi : i < n := by
    obtain ⟨z, _⟩ := List.getElem?_eq_some_iff.mp hd
    rw [rgD_length] at z; exact z
  unfold rgD at hd
  rw [List.getElem?_map, List.getElem?_range hi] at hd
  cases hd
  exact ⟨T', .refl l.ok, rfl, .int _⟩
@[simp] def cI1 : List D → (Int → Prop) → Prop
  | [.int j], k => k j
  | _, _ => False
@[simp] def cI2 : List D → (Int → Int → Prop) → Prop
  | [.int i, .int j], k => k i j
  | _, _ => False
@[simp] def cI3 : List D → (Int → Int → Int → Prop) → Prop
  | [.int i, .int j, .int l], k => k i j l
  | _, _ => False
theorem cI1_of {l : List D} {k : Int → Prop} (h : cI1 l k) : ∃ i, l = [.int i] ∧ k i := by
  unfold cI1 at h
  split at h
  · exact ⟨_, rfl, h⟩
  · exact h.elim
theorem cI2_of {l : List D} {k : Int → Int → Prop} (h : cI2 l k) : ∃ i j, l = [.int i, .int j] ∧ k i j := by
  unfold cI2 at h
  split at h
  · exact ⟨_, _, rfl, h⟩
  · exact h.elim
theorem cI3_of {l : List D} {k : Int → Int → Int → Prop} (h : cI3 l k) : ∃ i j m, l = [.int i, .int j, .int m] ∧ k i j m := by
  unfold cI3 at h
  split at h
  · exact ⟨_, _, _, rfl, h⟩
  · exact h.elim
@[simp] def wRg1 (w : WA) : WI := fun ρ Q => w ρ fun as ρ1 => rsN ρ1 as fun ds => cI1 ds fun j => (-(2 ^ 62) ≤ j ∧ j < 2 ^ 62) ∧ Q (rgD 0 j.toNat) ρ1
@[simp] def wRg2 (w : WA) : WI := fun ρ Q => w ρ fun as ρ1 => rsN ρ1 as fun ds => cI2 ds fun i j => (-(2 ^ 62) ≤ i ∧ i < 2 ^ 62 ∧ -(2 ^ 62) ≤ j ∧ j < 2 ^ 62) ∧ Q (rgD i (j - i).toNat) ρ1
theorem si_rg1 {t : TA} {w : WA} (h : SA Γ t w) : SI Γ (iRng1 t) (wRg1 w) := ⟨fun {T σ ρ Q Q'} S hw q => h.h S hw fun vs T1 as ρ1 S1 e1 r1 q1 => by
  obtain ⟨ds, rd, q1⟩ := S1.rsN r1 q1
  obtain ⟨j, rfl, q1⟩ := cI1_of q1
  obtain ⟨v, rfl, r⟩ := rd.one
  cases r.int
  exact ⟨j, rfl, q1.1.1, q1.1.2, q _ T1 _ ρ1 S1 e1 its_range q1.2⟩⟩
theorem si_rg2 {t : TA} {w : WA} (h : SA Γ t w) : SI Γ (iRng2 t) (wRg2 w) := ⟨fun {T σ ρ Q Q'} S hw q => h.h S hw fun vs T1 as ρ1 S1 e1 r1 q1 => by
  obtain ⟨ds, rd, q1⟩ := S1.rsN r1 q1
  obtain ⟨i, j, rfl, q1⟩ := cI2_of q1
  obtain ⟨v, u, rfl, r, r'⟩ := rd.two
  cases r.int
  cases r'.int
  exact ⟨i, j, rfl, q1.1, q _ T1 _ ρ1 S1 e1 its_range q1.2⟩⟩
theorem vi_rg1 {tg a : Expr} {ta : TA} {wa : WA} {p pos : Pos} (hg : Gl X "range") (hm : X.mg "range" = none) (ha : VA Γ X [a] ta wa) (hs : starEach [a] X.env = [(false, eval a X.env)] := by rfl) : VI Γ X tg (.Call (.Name "range" p) [a] [] pos) (iRng1 ta) (wRg1 wa) := ⟨pi_range1 hg hm ha.pe hs, si_rg1 ha.se⟩
theorem vi_rg2 {tg a b : Expr} {ta : TA} {wa : WA} {p pos : Pos} (hg : Gl X "range") (hm : X.mg "range" = none) (ha : VA Γ X [a, b] ta wa) (hs : starEach [a, b] X.env = [(false, eval a X.env), (false, eval b X.env)] := by rfl) (hs2 : starEach [b] X.env = [(false, eval b X.env)] := by rfl) : VI Γ X tg (.Call (.Name "range" p) [a, b] [] pos) (iRng2 ta) (wRg2 wa) := ⟨pi_range2 hg hm ha.pe hs hs2, si_rg2 ha.se⟩
/-! ### for, while -/
@[simp] def forV (g : WG) (b : WS) : List D → WS
  | [] => fun D ρ => D.nx ρ
  | d :: ds => fun D ρ => g d ρ fun ρ1 => b { D with nx := fun ρ2 => forV g b ds D ρ2, ct := fun ρ2 => forV g b ds D ρ2, bk := D.nx } ρ1
@[simp] def wFor (w : WI) (g : WG) (b : WS) : WS := fun D ρ => w ρ fun ds ρ1 => forV g b ds D ρ1
theorem Ext.lat {T' : Wo} (e : Ext Γ T T') (o : T'.Ok) : Lat Γ T T' := ⟨o, by rw [e.f]; exact Same.refl _, e.s0, e.da⟩
theorem ss_for {ti : TI} {g : TG} {ts : List Nat} {tb : TS} {w : WI} {wg : WG} {wb : WS} (hi : SI Γ ti w) (hg : SG Γ g ts wg) (hb : SS Γ tb wb) : SS Γ (tFor ti g tb) (wFor w wg wb) := ⟨fun {T σ ρ D D'} S hw a b c d => hi.h S hw fun J T1 ds ρ1 S1 e1 its q1 => by
  refine ⟨fun i m σ' H' => ∃ T' ρ', T'.H = H' ∧ Sv Γ T' σ' ρ' ∧ Ext Γ T1 T' ∧ forV wg wb (ds.drop i) D ρ' ∧ m = ds.length - i ∧ i ≤ ds.length, ⟨_, T1, ρ1, rfl, S1, .refl, q1, rfl, Nat.zero_le _⟩, ?_⟩
  rintro i m σ' H' ⟨T', ρ', rfl, S', e', q', rfl, hi⟩
  have lat := e'.lat S'.ok
  by_cases hlt : i < ds.length
  · rw [List.drop_eq_getElem_cons hlt] at q'
    refine .inr ⟨its.go T' lat i hlt, fun σ2 H2 => ∃ T2 ρ2, T2.H = H2 ∧ Sv Γ T2 σ2 ρ2 ∧ Ext Γ T1 T2 ∧ forV wg wb (ds.drop (i + 1)) D ρ2, ?_, fun x H2 hy => ?_⟩
    · rintro σ2 H2 ⟨T2, ρ2, h1, h2, h3, h4⟩
      exact ⟨ds.length - (i + 1), by omega, T2, ρ2, h1, h2, h3, h4, rfl, hlt⟩
    · obtain ⟨T2, g2, rfl, r2⟩ := its.yld T' lat i ds[i] x H2 (List.getElem?_eq_getElem hlt) hy
      have S2 := S'.grow g2
      have e2 : Ext Γ T1 T2 := e'.trans g2.ext
      refine hg.h S2 r2 q' fun σ3 ρ3 S3 _ q3 => hb.h S3 q3 (fun T4 σ4 ρ4 S4 e4 q4 => ⟨T4, ρ4, rfl, S4, e2.trans e4, q4⟩) (fun T4 v x o4 e4 r4 q4 => b T4 v x o4 ((e1.trans e2).trans e4) r4 q4) (fun T4 σ4 ρ4 S4 e4 q4 => a T4 σ4 ρ4 S4 ((e1.trans e2).trans e4) q4) (fun T4 σ4 ρ4 S4 e4 q4 => ⟨T4, ρ4, rfl, S4, e2.trans e4, q4⟩)
  · have z : i = ds.length := by omega
    subst z
    rw [List.drop_length] at q'
    exact .inl ⟨its.stop T' lat, a T' σ' ρ' S' (e1.trans e') q'⟩⟩
theorem vs_for {tg it : Expr} {body : List Stmt} {ti : TI} {g : TG} {ts : List Nat} {tb : TS} {w : WI} {wg : WG} {wb : WS} {pos : Pos} (hp : PassesOwn (model X.prog X.w) X.A X.env X.xe) (hc : X.calm = true) (hi : VI Γ X tg it ti w) (hg : VG Γ X tg g ts wg) (hb : VB Γ X body tb wb) (hs : ∀ x, foldedSetIterable it X.env x = pure x := by intro _; rfl) : VS Γ X (.For tg it body [] pos) (tFor ti g tb) (wFor w wg wb) := ⟨ps_for hp hc hi.pe hg.pe hb.pe hs, ss_for hi.se hg.se hb.se⟩
@[simp] def whileV (c : WT) (b : WS) : Nat → WS
  | 0 => fun _ _ => False
  | n + 1 => fun D ρ => c ρ fun k ρ1 => (k = true → b { D with nx := fun ρ2 => whileV c b n D ρ2, ct := fun ρ2 => whileV c b n D ρ2, bk := D.nx } ρ1) ∧ (k = false → D.nx ρ1)
def wWhile (c : WT) (b : WS) : WS := fun D ρ => ∃ n, whileV c b n D ρ
theorem ss_while {tc : TT} {tb : TS} {wc : WT} {wb : WS} (hc : ST Γ tc wc) (hb : SS Γ tb wb) : SS Γ (tWhile tc tb) (wWhile wc wb) := ⟨fun {T σ ρ D D'} S hw a b c d => by
  obtain ⟨n, hw⟩ := hw
  refine ⟨fun m σ' H' => ∃ T' ρ', T'.H = H' ∧ Sv Γ T' σ' ρ' ∧ Ext Γ T T' ∧ whileV wc wb m D ρ', ⟨n, T, ρ, rfl, S, .refl, hw⟩, ?_⟩
  rintro m σ' H' ⟨T', ρ', rfl, S', e', q'⟩
  cases m with
  | zero => exact q'.elim
  | succ m =>
    refine hc.h S' q' fun k T2 ρ2 S2 e2 q2 => ?_
    cases k with
    | true =>
      refine iteT ⟨fun σ2 H2 => ∃ T2 ρ2, T2.H = H2 ∧ Sv Γ T2 σ2 ρ2 ∧ Ext Γ T T2 ∧ whileV wc wb m D ρ2, fun σ2 H2 h => ⟨m, Nat.lt_succ_self _, h⟩, ?_⟩
      exact hb.h S2 (q2.1 rfl) (fun T4 σ4 ρ4 S4 e4 q4 => ⟨T4, ρ4, rfl, S4, (e'.trans e2).trans e4, q4⟩) (fun T4 v x o4 e4 r4 q4 => b T4 v x o4 ((e'.trans e2).trans e4) r4 q4) (fun T4 σ4 ρ4 S4 e4 q4 => a T4 σ4 ρ4 S4 ((e'.trans e2).trans e4) q4) (fun T4 σ4 ρ4 S4 e4 q4 => ⟨T4, ρ4, rfl, S4, (e'.trans e2).trans e4, q4⟩)
    | false => exact iteF (a T2 σ' ρ2 S2 (e'.trans e2) (q2.2 rfl))⟩
theorem vs_while {c : Expr} {body : List Stmt} {tc : TT} {tb : TS} {wc : WT} {wb : WS} {pos : Pos} (hp : PassesOwn (model X.prog X.w) X.A X.env X.xe) (hc : VT Γ X c tc wc) (hb : VB Γ X body tb wb) : VS Γ X (.While c body [] pos) (tWhile tc tb) (wWhile wc wb) := ⟨ps_while hp hc.pe hb.pe, ss_while hc.se hb.se⟩
/-! ### one's own list is pinned for a while -/
theorem Sv.pinned {p : Addr} {vs : List V} {i : Nat} {l : List D} (S : Sv Γ T σ ρ) (hi : ρ[i]? = some (.own l)) (hs : σ[i]? = some (some (.ref p))) (hp : T.H p = some (.lst vs)) (r : RA Γ T.H0 T.Hd vs l) (nF : T.F p = none) (n0 : T.H0 p = none) (nd : T.Hd p = none) :
    Sv Γ ⟨upd T.F p (.lst vs), T.H0, T.Hd, T.H, fun q => q = p ∨ T.P q⟩ σ (ρ.set i (.pin p l)) := by
  refine ⟨⟨fun b x e => ?_, S.ok.s0, S.ok.sd, fun {b x} e => ?_, fun {b x} e => ?_, S.ok.zd⟩, by rw [List.length_set, S.len], fun j c e => ?_, fun j k q c1 c2 e1 e2 p1 p2 e3 e4 => ?_⟩
  · dsimp only at e ⊢
    by_cases hb : b = p
    · subst hb; rw [upd_same] at e; cases e; exact hp
    · rw [upd_ne hb] at e; exact S.ok.sF _ _ e
  · dsimp only at e ⊢
    by_cases hb : b = p
    · subst hb; exact n0
    · rw [upd_ne hb] at e; exact S.ok.F0 e
  · dsimp only at e ⊢
    by_cases hb : b = p
    · subst hb; exact nd
    · rw [upd_ne hb] at e; exact S.ok.Fd e
  · rcases set_at e with ⟨rfl, hl, rfl⟩ | ⟨hj, e⟩
    · exact ⟨_, hs, vs, rfl, .inl rfl, upd_same, r⟩
    · obtain ⟨s, e1, r1⟩ := S.cell j c e
      refine ⟨s, e1, ?_⟩
      have nq : ∀ q, c.priv = true → s = some (.ref q) → q ≠ p := fun q pq z z2 => hj (S.dist i j p _ c hi e rfl pq hs (by rw [e1, z, z2]))
      cases c with
      | no => trivial
      | val d => exact r1
      | own l => obtain ⟨q, us, e2, e3, r, m1, m2⟩ := r1; exact ⟨q, us, e2, e3, r, (by dsimp only; rw [upd_ne (nq q rfl e2)]; exact m1), m2⟩
      | pin q l =>
        obtain ⟨us, e2, e0, e3, r⟩ := r1
        exact ⟨us, e2, .inr e0, (by dsimp only; rw [upd_ne (fun z => by rw [z, nF] at e3; cases e3)]; exact e3), r⟩
      | obj q c fs => obtain ⟨C, dx, vf, e2, e3, m, cl, na, r, m1, m2⟩ := r1; exact ⟨C, dx, vf, e2, e3, m, cl, na, r, (by dsimp only; rw [upd_ne (nq q rfl e2)]; exact m1), m2⟩
      | dic l => obtain ⟨q, us, e2, e3, r, m1, m2⟩ := r1; exact ⟨q, us, e2, e3, r, (by dsimp only; rw [upd_ne (nq q rfl e2)]; exact m1), m2⟩
  · have f : ∀ {j : Nat} {c1 : Cell}, (ρ.set i (.pin p l))[j]? = some c1 → c1.priv = true → ∃ c', ρ[j]? = some c' ∧ c'.priv = true := fun {j c1} e pq => by
      rcases set_at e with ⟨rfl, hl, rfl⟩ | ⟨hj, e⟩
      · exact ⟨_, hi, rfl⟩
      · exact ⟨_, e, pq⟩
    obtain ⟨c1', f1, q1⟩ := f e1 p1
    obtain ⟨c2', f2, q2⟩ := f e2 p2
    exact S.dist j k q _ _ f1 f2 q1 q2 e3 e4
theorem Sv.unpinned {F : Hp} {P : Addr → Prop} {p : Addr} {vs : List V} {i : Nat} {l : List D} (S : Sv Γ T σ ρ) (hF : T.F = upd F p (.lst vs)) (hP : T.P = fun q => q = p ∨ P q) (nF : F p = none) (hi : ρ.getD i .no = .pin p l) : Sv Γ ⟨F, T.H0, T.Hd, T.H, P⟩ σ (ρ.set i (.own l)) := by
  have sF : Same F T.F := by rw [hF]; exact same_new nF
  have hi' := getD_of hi (by simp)
  obtain ⟨s, hs, us, rfl, _, hp, r⟩ := S.cell i _ hi'
  have nq : ∀ {q : Addr}, T.F q = none → q ≠ p := fun n z => by rw [z, hp] at n; cases n
  refine ⟨⟨fun b x e => S.ok.sF _ _ (sF _ _ e), S.ok.s0, S.ok.sd, fun {b x} e => S.ok.F0 (sF _ _ e), fun {b x} e => S.ok.Fd (sF _ _ e), S.ok.zd⟩, by rw [List.length_set, S.len], fun j c e => ?_, fun j k q c1 c2 e1 e2 p1 p2 e3 e4 => ?_⟩
  · rcases set_at e with ⟨rfl, hl, rfl⟩ | ⟨hj, e⟩
    · exact ⟨_, hs, p, us, rfl, S.ok.sF _ _ hp, r, nF, S.ok.F0 hp, S.ok.Fd hp⟩
    · obtain ⟨s, e1, r1⟩ := S.cell j c e
      refine ⟨s, e1, ?_⟩
      cases c with
      | no => trivial
      | val d => exact r1
      | own l => obtain ⟨q, us, e2, e3, r, m1, m2⟩ := r1; exact ⟨q, us, e2, e3, r, none_of_le sF m1, m2⟩
      | pin q l' =>
        obtain ⟨us', e2, e0, e3, r⟩ := r1
        have hq : q ≠ p := fun z => hj (S.dist i j p _ _ hi' e rfl rfl hs (by rw [e1, e2, z]))
        refine ⟨us', e2, ?_, ?_, r⟩
        · rw [hP] at e0
          exact e0.resolve_left hq
        dsimp only
        rw [hF, upd_ne hq] at e3
        exact e3
      | obj q c fs => obtain ⟨C, dx, vf, e2, e3, m, cl, na, r, m1, m2⟩ := r1; exact ⟨C, dx, vf, e2, e3, m, cl, na, r, none_of_le sF m1, m2⟩
      | dic l => obtain ⟨q, us, e2, e3, r, m1, m2⟩ := r1; exact ⟨q, us, e2, e3, r, none_of_le sF m1, m2⟩
  · have f : ∀ {j : Nat} {c1 : Cell}, (ρ.set i (.own l))[j]? = some c1 → c1.priv = true → ∃ c', ρ[j]? = some c' ∧ c'.priv = true := fun {j c1} e pq => by
      rcases set_at e with ⟨rfl, hl, rfl⟩ | ⟨hj, e⟩
      · exact ⟨_, hi', rfl⟩
      · exact ⟨_, e, pq⟩
    obtain ⟨c1', f1, q1⟩ := f e1 p1
    obtain ⟨c2', f2, q2⟩ := f e2 p2
    exact S.dist j k q _ _ f1 f2 q1 q2 e3 e4
end
end Vl

namespace Vl
open PySem PySem.Spec PyProof.Rows L2 Hl

section
variable {Γ : Gx} {X : Cx} {T : Wo} {σ : L2.St} {ρ : Vn}
/-- the slot is pinned while w runs -/
@[simp] def wPinS (i : Nat) (w : WS) : WS := fun D ρ => cOwn (ρ.getD i .no) fun l => ∀ p, w { nx := fun ρ' => ρ'.getD i .no = .pin p l ∧ D.nx (ρ'.set i (.own l)), rt := D.rt, bk := fun ρ' => ρ'.getD i .no = .pin p l ∧ D.bk (ρ'.set i (.own l)), ct := fun ρ' => ρ'.getD i .no = .pin p l ∧ D.ct (ρ'.set i (.own l)) } (ρ.set i (.pin p l))
@[simp] def wPinE (i : Nat) (w : WE) : WE := fun ρ Q => cOwn (ρ.getD i .no) fun l => ∀ p, w (ρ.set i (.pin p l)) fun d ρ' => ρ'.getD i .no = .pin p l ∧ Q d (ρ'.set i (.own l))
@[simp] def wPinF (i : Nat) (w : WF) : WF := fun ρ Q => cOwn (ρ.getD i .no) fun l => ∀ p, w (ρ.set i (.pin p l)) fun d ρ' => ρ'.getD i .no = .pin p l ∧ Q d (ρ'.set i (.own l))
theorem pin_ext {F : Hp} {P : Addr → Prop} {p : Addr} {o : HO} {T' : Wo} (e : Ext Γ ⟨upd F p o, T.H0, T.Hd, T.H, P⟩ T') (h : T.F = F) : Ext Γ T ⟨F, T'.H0, T'.Hd, T'.H, T.P⟩ := ⟨h.symm, rfl, e.s0, e.da⟩
theorem ss_pin {i : Nat} {t : TS} {w : WS} (h : SS Γ t w) : SS Γ t (wPinS i w) := ⟨fun {T σ ρ D D'} S hw a b c d => by
  obtain ⟨p, vs, l, hi, hs, hp, r, nF, n0, nd, hw⟩ := S.ownAt hw
  refine h.h (T := ⟨upd T.F p (.lst vs), T.H0, T.Hd, T.H, fun q => q = p ∨ T.P q⟩) (S.pinned hi hs hp r nF n0 nd) (hw p) (fun T1 σ1 ρ1 S1 e1 q1 => ?_) (fun T1 v x o1 e1 r1 q1 => ?_) (fun T1 σ1 ρ1 S1 e1 q1 => ?_) (fun T1 σ1 ρ1 S1 e1 q1 => ?_)
  · exact a ⟨T.F, T1.H0, T1.Hd, T1.H, T.P⟩ σ1 _ (S1.unpinned e1.f e1.p nF q1.1) (pin_ext e1 rfl) q1.2
  · have sF : Same T.F T1.F := by rw [e1.f]; exact same_new nF
    exact b ⟨T.F, T1.H0, T1.Hd, T1.H, T.P⟩ v x ⟨fun b x e => o1.sF _ _ (sF _ _ e), o1.s0, o1.sd, fun {b x} e => o1.F0 (sF _ _ e), fun {b x} e => o1.Fd (sF _ _ e), o1.zd⟩ (pin_ext e1 rfl) r1 q1
  · exact c ⟨T.F, T1.H0, T1.Hd, T1.H, T.P⟩ σ1 _ (S1.unpinned e1.f e1.p nF q1.1) (pin_ext e1 rfl) q1.2
  · exact d ⟨T.F, T1.H0, T1.Hd, T1.H, T.P⟩ σ1 _ (S1.unpinned e1.f e1.p nF q1.1) (pin_ext e1 rfl) q1.2⟩
theorem se_pin {i : Nat} {t : TE} {w : WE} (h : SE Γ t w) : SE Γ t (wPinE i w) := ⟨fun {T σ ρ Q Q'} S hw q => by
  obtain ⟨p, vs, l, hi, hs, hp, r, nF, n0, nd, hw⟩ := S.ownAt hw
  exact h.h (T := ⟨upd T.F p (.lst vs), T.H0, T.Hd, T.H, fun q => q = p ∨ T.P q⟩) (S.pinned hi hs hp r nF n0 nd) (hw p) fun v T1 d ρ1 S1 e1 r1 q1 => q v ⟨T.F, T1.H0, T1.Hd, T1.H, T.P⟩ d _ (S1.unpinned e1.f e1.p nF q1.1) (pin_ext e1 rfl) r1 q1.2⟩
theorem sf_pin {i : Nat} {t : TE} {w : WF} (h : SF Γ t w) : SF Γ t (wPinF i w) := ⟨fun {T σ ρ Q Q'} S hw q => by
  obtain ⟨p, vs, l, hi, hs, hp, r, nF, n0, nd, hw⟩ := S.ownAt hw
  exact h.h (T := ⟨upd T.F p (.lst vs), T.H0, T.Hd, T.H, fun q => q = p ∨ T.P q⟩) (S.pinned hi hs hp r nF n0 nd) (hw p) fun p1 vs1 T1 d ρ1 S1 e1 hp1 nF1 n01 nd1 hn1 r1 q1 => by
    have sF : Same T.F T1.F := by rw [e1.f]; exact same_new nF
    refine q p1 vs1 ⟨T.F, T1.H0, T1.Hd, T1.H, T.P⟩ d _ (S1.unpinned e1.f e1.p nF q1.1) (pin_ext e1 rfl) hp1 (none_of_le sF nF1) n01 nd1 (fun j c ec pc => ?_) r1 q1.2
    rcases set_at ec with ⟨rfl, hl, rfl⟩ | ⟨hj, ec⟩
    · exact hn1 i _ (getD_of q1.1 (by simp)) rfl
    · exact hn1 j c ec pc⟩
theorem vs_pin {st : Stmt} {t : TS} {w : WS} (i : Nat) (h : VS Γ X st t w) : VS Γ X st t (wPinS i w) := ⟨h.pe, ss_pin h.se⟩
theorem ve_pin {e : Expr} {t : TE} {w : WE} (i : Nat) (h : VE Γ X e t w) : VE Γ X e t (wPinE i w) := ⟨h.pe, se_pin h.se⟩
theorem vf_pin {e : Expr} {t : TE} {w : WF} (i : Nat) (h : VF Γ X e t w) : VF Γ X e t (wPinF i w) := ⟨h.pe, sf_pin h.se⟩

/-! ### comprehensions -/
@[simp] def wipeV (ρ : Vn) : List Nat → Vn
  | [] => ρ
  | v :: vs => (wipeV ρ vs).set v .no
/-- behind the block the names outside stand as before -/
@[simp] def backV (ρ0 ρ : Vn) : List Nat → Vn
  | [] => ρ
  | v :: vs => match ρ0.getD v .no with
    | .val d => (backV ρ0 ρ vs).set v (.val d)
    | _ => backV ρ0 ρ vs
@[simp] def lcV (g : WG) (c : WT) (w : WE) (vs : List Nat) : List D → List D → Vn → (List D → Vn → Prop) → Prop
  | [], acc, ρ, Q => Q acc ρ
  | d :: ds, acc, ρ, Q => g d ρ fun ρ1 => c ρ1 fun b ρ2 => (b = true → w ρ2 fun y ρ3 => acc.length < sizeLine ∧ lcV g c w vs ds (acc ++ [y]) (wipeV ρ3 vs) Q) ∧ (b = false → lcV g c w vs ds acc (wipeV ρ2 vs) Q)
@[simp] def wLc (wi : WI) (g : WG) (c : WT) (w : WE) (vs : List Nat) : WF := fun ρ Q => wi ρ fun ds ρ1 => lcV g c w vs ds [] (wipeV ρ1 vs) fun l ρ2 => Q l (backV ρ1 ρ2 vs)
@[simp] def wYes : WT := fun ρ Q => Q true ρ
theorem st_yes : ST Γ tYes wYes := ⟨fun {T σ ρ Q Q'} S hw q => q true T ρ S .refl hw⟩
theorem wipe_at {σ : L2.St} {j : Nat} : ∀ {vs : List Nat}, (j ∉ vs → (wipe σ vs)[j]? = σ[j]?) ∧ (j ∈ vs → j < σ.length → (wipe σ vs)[j]? = some none)
  | [] => ⟨fun _ => rfl, fun h => by simp at h⟩
  | v :: vs => by
    obtain ⟨h1, h2⟩ := wipe_at (σ := σ) (j := j) (vs := vs)
    unfold wipe
    refine ⟨fun hj => ?_, fun hj hl => ?_⟩
    · rw [List.mem_cons, not_or] at hj
      rw [List.getElem?_set_ne (Ne.symm hj.1)]
      exact h1 hj.2
    · by_cases hv : v = j
      · subst hv
        rw [List.getElem?_set_self (by rw [wipe_length]; exact hl)]
      · rw [List.getElem?_set_ne hv]
        rcases List.mem_cons.mp hj with z | z
        · exact absurd z.symm hv
        · exact h2 z hl
theorem wipeV_length (ρ : Vn) : ∀ vs : List Nat, (wipeV ρ vs).length = ρ.length
  | [] => rfl
  | v :: vs => by unfold wipeV; rw [List.length_set, wipeV_length ρ vs]
theorem wipeV_at {ρ : Vn} {j : Nat} {c : Cell} : ∀ {vs : List Nat}, (wipeV ρ vs)[j]? = some c → c = .no ∨ (j ∉ vs ∧ ρ[j]? = some c)
  | [], h => .inr ⟨by simp, h⟩
  | v :: vs, h => by
    unfold wipeV at h
    rcases set_at h with ⟨rfl, hl, rfl⟩ | ⟨hj, h⟩
    · exact .inl rfl
    · rcases wipeV_at h with z | ⟨z, h⟩
      · exact .inl z
      · exact .inr ⟨by rw [List.mem_cons, not_or]; exact ⟨fun e => hj e.symm, z⟩, h⟩
/-- the block's own names forgotten -/
theorem Sv.wiped {σ' : L2.St} {vs : List Nat} (S : Sv Γ T σ ρ) (hl : σ'.length = σ.length) (hs : ∀ j, j ∉ vs → σ'[j]? = σ[j]?) : Sv Γ T σ' (wipeV ρ vs) := by
  refine ⟨S.ok, by rw [hl, S.len, wipeV_length], fun j c e => ?_, fun j k p c1 c2 e1 e2 p1 p2 e3 e4 => ?_⟩
  · rcases wipeV_at e with rfl | ⟨hj, e'⟩
    · have h : j < ρ.length := by
        obtain ⟨z, _⟩ := List.getElem?_eq_some_iff.mp e
        rwa [wipeV_length] at z
      exact ⟨_, List.getElem?_eq_getElem (by rw [hl, S.len]; exact h), trivial⟩
    · obtain ⟨s, e1, r⟩ := S.cell j c e'
      exact ⟨s, by rw [hs j hj]; exact e1, r⟩
  · rcases wipeV_at e1 with rfl | ⟨hj, e1⟩
    · cases p1
    · rcases wipeV_at e2 with rfl | ⟨hk, e2⟩
      · cases p2
      · rw [hs j hj] at e3
        rw [hs k hk] at e4
        exact S.dist j k p c1 c2 e1 e2 p1 p2 e3 e4
theorem wipe_eq {σ σ' : L2.St} {vs : List Nat} (hl : σ'.length = σ.length) (hs : ∀ j, j ∉ vs → σ'[j]? = σ[j]?) : wipe σ' vs = wipe σ vs := by
  apply List.ext_getElem?
  intro j
  by_cases hj : j ∈ vs
  · by_cases h : j < σ.length
    · rw [(wipe_at).2 hj h, (wipe_at).2 hj (by rw [hl]; exact h)]
    · rw [List.getElem?_eq_none (by rw [wipe_length, hl]; omega), List.getElem?_eq_none (by rw [wipe_length]; omega)]
  · rw [(wipe_at).1 hj, (wipe_at).1 hj, hs j hj]
theorem Sv.back {ρ0 : Vn} {T0 : Wo} (S0 : Sv Γ T0 σ ρ0) (e : Ext Γ T0 T) : ∀ {vs : List Nat}, Sv Γ T σ ρ → Sv Γ T σ (backV ρ0 ρ vs)
  | [], S => S
  | v :: vs, S => by
    unfold backV
    split
    · rename_i d ed
      refine (Sv.back S0 e S).re (fun s hs _ => ?_) fun z => nomatch z
      obtain ⟨s', e1, v, e2, r⟩ := S0.cell _ _ (getD_of ed (by simp))
      rw [hs] at e1; cases e1
      exact ⟨v, e2, R.ext e r⟩
    · exact Sv.back S0 e S
theorem Sv.reF {D : Addr} {o : HO} (S : Sv Γ T σ ρ) (hD : T.H D = some o) (nF : T.F D = none) (n0 : T.H0 D = none) (nd : T.Hd D = none) (hn : ∀ (j : Nat) (c : Cell), ρ[j]? = some c → c.priv = true → σ[j]? ≠ some (some (.ref D))) : Sv Γ ⟨upd T.F D o, T.H0, T.Hd, T.H, fun q => T.P q ∧ q ≠ D⟩ σ ρ := by
  refine ⟨⟨fun b x e => ?_, S.ok.s0, S.ok.sd, fun {b x} e => ?_, fun {b x} e => ?_, S.ok.zd⟩, S.len, fun j c e => ?_, S.dist⟩
  · dsimp only at e ⊢
    by_cases hb : b = D
    · subst hb; rw [upd_same] at e; cases e; exact hD
    · rw [upd_ne hb] at e; exact S.ok.sF _ _ e
  · dsimp only at e ⊢
    by_cases hb : b = D
    · subst hb; exact n0
    · rw [upd_ne hb] at e; exact S.ok.F0 e
  · dsimp only at e ⊢
    by_cases hb : b = D
    · subst hb; exact nd
    · rw [upd_ne hb] at e; exact S.ok.Fd e
  · obtain ⟨s, e1, r1⟩ := S.cell j c e
    refine ⟨s, e1, ?_⟩
    have nq : ∀ q, c.priv = true → s = some (.ref q) → q ≠ D := fun q pq z z2 => hn j c e pq (by rw [e1, z, z2])
    cases c with
    | no => trivial
    | val d => exact r1
    | own l => obtain ⟨q, us, e2, e3, r, m1, m2⟩ := r1; exact ⟨q, us, e2, e3, r, (by dsimp only; rw [upd_ne (nq q rfl e2)]; exact m1), m2⟩
    | pin q l => obtain ⟨us, e2, e0, e3, r⟩ := r1; exact ⟨us, e2, ⟨e0, nq q rfl e2⟩, (by dsimp only; rw [upd_ne (nq q rfl e2)]; exact e3), r⟩
    | obj q c fs => obtain ⟨C, dx, vf, e2, e3, m, cl, na, r, m1, m2⟩ := r1; exact ⟨C, dx, vf, e2, e3, m, cl, na, r, (by dsimp only; rw [upd_ne (nq q rfl e2)]; exact m1), m2⟩
    | dic l => obtain ⟨q, us, e2, e3, r, m1, m2⟩ := r1; exact ⟨q, us, e2, e3, r, (by dsimp only; rw [upd_ne (nq q rfl e2)]; exact m1), m2⟩
/-- the accumulator is stored; the outer part is as it was -/
theorem Sv.unreF {F : Hp} {P : Addr → Prop} {D : Addr} {o o' : HO} (S : Sv Γ T σ ρ) (hF : T.F = upd F D o) (hP : T.P = fun q => P q ∧ q ≠ D) (nF : F D = none) :
    Sv Γ ⟨F, T.H0, T.Hd, upd T.H D o', P⟩ σ ρ ∧ T.H D = some o ∧ T.H0 D = none ∧ T.Hd D = none := by
  have sF : Same F T.F := by rw [hF]; exact same_new nF
  have fD : T.F D = some o := by rw [hF]; exact upd_same
  have n0 := S.ok.F0 fD
  have nd := S.ok.Fd fD
  have ne : ∀ {A : Hp} {b x}, A D = none → A b = some x → b ≠ D := fun hn e z => by rw [z, hn] at e; cases e
  refine ⟨⟨⟨fun b x e => ?_, fun b x e => ?_, fun b x e => ?_, fun {b x} e => S.ok.F0 (sF _ _ e), fun {b x} e => S.ok.Fd (sF _ _ e), S.ok.zd⟩, S.len, fun j c e => ?_, S.dist⟩, S.ok.sF _ _ fD, n0, nd⟩
  · dsimp only at e ⊢; rw [upd_ne (ne nF e)]; exact S.ok.sF _ _ (sF _ _ e)
  · dsimp only at e ⊢; rw [upd_ne (ne n0 e)]; exact S.ok.s0 _ _ e
  · dsimp only at e ⊢; rw [upd_ne (ne nd e)]; exact S.ok.sd _ _ e
  · obtain ⟨s, e1, r1⟩ := S.cell j c e
    refine ⟨s, e1, ?_⟩
    have nq : ∀ {q}, T.F q = none → q ≠ D := fun m z => by rw [z, fD] at m; cases m
    cases c with
    | no => trivial
    | val d => exact r1
    | own l => obtain ⟨q, us, e2, e3, r, m1, m2⟩ := r1; exact ⟨q, us, e2, (by dsimp only; rw [upd_ne (nq m1)]; exact e3), r, none_of_le sF m1, m2⟩
    | pin q l => obtain ⟨us, e2, e0, e3, r⟩ := r1; rw [hP] at e0; exact ⟨us, e2, e0.1, (by dsimp only; rw [hF, upd_ne e0.2] at e3; exact e3), r⟩
    | obj q c fs => obtain ⟨C, dx, vf, e2, e3, m, cl, na, r, m1, m2⟩ := r1; exact ⟨C, dx, vf, e2, (by dsimp only; rw [upd_ne (nq m1)]; exact e3), m, cl, na, r, none_of_le sF m1, m2⟩
    | dic l => obtain ⟨q, us, e2, e3, r, m1, m2⟩ := r1; exact ⟨q, us, e2, (by dsimp only; rw [upd_ne (nq m1)]; exact e3), r, none_of_le sF m1, m2⟩
theorem Sv.rewiped {σ' : L2.St} {vs : List Nat} {ρ : Vn} (S : Sv Γ T σ (wipeV ρ vs)) (hl : σ'.length = σ.length) (hs : ∀ j, j ∉ vs → σ'[j]? = σ[j]?) : Sv Γ T σ' (wipeV ρ vs) := by
  refine ⟨S.ok, by rw [hl, S.len], fun j c e => ?_, fun j k p c1 c2 e1 e2 p1 p2 e3 e4 => ?_⟩
  · rcases wipeV_at e with rfl | ⟨hj, _⟩
    · have h : j < ρ.length := by
        obtain ⟨z, _⟩ := List.getElem?_eq_some_iff.mp e
        rwa [wipeV_length] at z
      exact ⟨_, List.getElem?_eq_getElem (by rw [hl, S.len, wipeV_length]; exact h), trivial⟩
    · obtain ⟨s, e1, r⟩ := S.cell j c e
      exact ⟨s, by rw [hs j hj]; exact e1, r⟩
  · rcases wipeV_at e1 with rfl | ⟨hj, _⟩
    · cases p1
    · rcases wipeV_at e2 with rfl | ⟨hk, _⟩
      · cases p2
      · rw [hs j hj] at e3
        rw [hs k hk] at e4
        exact S.dist j k p c1 c2 e1 e2 p1 p2 e3 e4
theorem back_priv {ρ0 : Vn} {j : Nat} {c : Cell} : ∀ {vs : List Nat} {ρ : Vn}, (backV ρ0 ρ vs)[j]? = some c → c.priv = true → ρ[j]? = some c
  | [], _, h, _ => h
  | v :: vs, ρ, h, pc => by
    unfold backV at h
    split at h
    · rcases set_at h with ⟨rfl, hl, rfl⟩ | ⟨hj, h⟩
      · cases pc
      · exact back_priv h pc
    · exact back_priv h pc
/-- nobody's slot holds what stands in the outer part, but pins -/
theorem sf_lc {ti : TI} {g : TG} {tt : TT} {te : TE} {ts vs : List Nat} {wi : WI} {wg : WG} {wc : WT} {we : WE} (hi : SI Γ ti wi) (hg : SG Γ g ts wg) (hc : ST Γ tt wc) (he : SE Γ te we) (hts : ∀ j ∈ ts, j ∈ vs) : SF Γ (tLc ti g tt te vs) (wLc wi wg wc we vs) := ⟨fun {T σ ρ Q Q'} S hw q => hi.h S hw fun J T1 ds ρ1 S1 e1 its q1 => by
  intro D nD
  have nF := none_of_le S1.ok.sF nD
  have n0 := none_of_le S1.ok.s0 nD
  have nd := none_of_le S1.ok.sd nD
  have notD : ∀ (j : Nat) (c : Cell), (wipeV ρ1 vs)[j]? = some c → c.priv = true → σ[j]? ≠ some (some (.ref D)) := fun j c ec pc => by
    rcases wipeV_at ec with rfl | ⟨_, ec⟩
    · cases pc
    · exact fresh_priv S1 nD j c ec pc
  refine ⟨fun i m H' => ∃ T' ρ' us acc, T'.H = H' ∧ Sv Γ T' σ (wipeV ρ' vs) ∧ Ext Γ T1 T' ∧ H' D = some (.lst us) ∧ T'.H0 D = none ∧ T'.Hd D = none ∧ (∀ (j : Nat) (c : Cell), (wipeV ρ' vs)[j]? = some c → c.priv = true → σ[j]? ≠ some (some (.ref D))) ∧ RA Γ T'.H0 T'.Hd us acc ∧ lcV wg wc we vs (ds.drop i) acc (wipeV ρ' vs) (fun l ρ2 => Q l (backV ρ1 ρ2 vs)) ∧ m = ds.length - i ∧ i ≤ ds.length, ⟨_, ⟨T1.F, T1.H0, T1.Hd, upd T1.H D (.lst []), T1.P⟩, ρ1, [], [], rfl, ?_, (Gr.priv S1.ok nD).ext, upd_same, n0, nd, notD, .nil, q1, rfl, Nat.zero_le _⟩, ?_⟩
  · exact (S1.grow (Gr.priv S1.ok nD)).wiped rfl fun _ _ => rfl
  rintro i m H' ⟨T', ρ', us, acc, rfl, S', e', hD, n0', nd', nn', ra, q', rfl, hi⟩
  have lat := e'.lat S'.ok
  have nF' : T'.F D = none := by rw [e'.f]; exact nF
  by_cases hlt : i < ds.length
  · rw [List.drop_eq_getElem_cons hlt] at q'
    -- the turn, the accumulator in the outer part
    have Sp := S'.reF hD nF' n0' nd' nn'
    have latp : Lat Γ T1 ⟨upd T'.F D (.lst us), T'.H0, T'.Hd, T'.H, fun q => T'.P q ∧ q ≠ D⟩ := ⟨Sp.ok, lat.f.trans (same_new nF'), lat.s0, lat.da⟩
    refine .inr ⟨its.go _ latp i hlt, fun H2 => ∃ T' ρ' us acc, T'.H = H2 ∧ Sv Γ T' σ (wipeV ρ' vs) ∧ Ext Γ T1 T' ∧ H2 D = some (.lst us) ∧ T'.H0 D = none ∧ T'.Hd D = none ∧ (∀ (j : Nat) (c : Cell), (wipeV ρ' vs)[j]? = some c → c.priv = true → σ[j]? ≠ some (some (.ref D))) ∧ RA Γ T'.H0 T'.Hd us acc ∧ lcV wg wc we vs (ds.drop (i + 1)) acc (wipeV ρ' vs) (fun l ρ2 => Q l (backV ρ1 ρ2 vs)), ?_, fun x H2 hy => ?_⟩
    · rintro H2 ⟨T2, ρ2, us2, acc2, h1, h2, h3, h4, h5, h6, h7, h8, h9⟩
      exact ⟨ds.length - (i + 1), by omega, T2, ρ2, us2, acc2, h1, h2, h3, h4, h5, h6, h7, h8, h9, rfl, hlt⟩
    · obtain ⟨T2, g2, rfl, r2⟩ := its.yld _ latp i ds[i] x H2 (List.getElem?_eq_getElem hlt) hy
      have S2 := Sp.grow g2
      have S2w : Sv Γ T2 (wipe σ vs) (wipeV ρ' vs) := S2.rewiped (wipe_length σ vs) fun j hj => (wipe_at).1 hj
      have E2 : Ext Γ ⟨upd T'.F D (.lst us), T'.H0, T'.Hd, T'.H, fun q => T'.P q ∧ q ≠ D⟩ T2 := g2.ext
      refine hg.h S2w r2 q' fun σ3 ρ3 S3 so3 q3 => ?_
      have l3 : σ3.length = σ.length := so3.1.trans (wipe_length σ vs)
      have o3 : ∀ j, j ∉ vs → σ3[j]? = σ[j]? := fun j hj => (so3.2 j fun z => hj (hts j z)).trans ((wipe_at).1 hj)
      -- behind a turn: the accumulator again one's own
      have fin : ∀ (T5 : Wo) (ρ5 : Vn) (us' : List V) (acc' : List Vl.D), Sv Γ T5 σ3 ρ5 → Ext Γ ⟨upd T'.F D (.lst us), T'.H0, T'.Hd, T'.H, fun q => T'.P q ∧ q ≠ D⟩ T5 → RA Γ T5.H0 T5.Hd us' acc' → lcV wg wc we vs (ds.drop (i + 1)) acc' (wipeV ρ5 vs) (fun l ρ2 => Q l (backV ρ1 ρ2 vs)) → T5.H D = some (.lst us) ∧
          ∃ T' ρ' us'' acc, T'.H = upd T5.H D (.lst us') ∧ Sv Γ T' σ (wipeV ρ' vs) ∧ Ext Γ T1 T' ∧ upd T5.H D (.lst us') D = some (.lst us'') ∧ T'.H0 D = none ∧ T'.Hd D = none ∧ (∀ (j : Nat) (c : Cell), (wipeV ρ' vs)[j]? = some c → c.priv = true → σ[j]? ≠ some (some (.ref D))) ∧ RA Γ T'.H0 T'.Hd us'' acc ∧ lcV wg wc we vs (ds.drop (i + 1)) acc (wipeV ρ' vs) (fun l ρ2 => Q l (backV ρ1 ρ2 vs)) := by
        intro T5 ρ5 us' acc' S5 E5 r5 q5
        obtain ⟨S6, hD5, n05, nd5⟩ := S5.unreF (o' := .lst us') E5.f E5.p nF'
        have S7 := S6.wiped (σ' := σ) (vs := vs) l3.symm fun j hj => (o3 j hj).symm
        have fD : T5.F D = some (.lst us) := by rw [E5.f]; exact upd_same
        refine ⟨hD5, _, ρ5, us', acc', rfl, S7, ⟨e'.f, e'.p, e'.s0.trans E5.s0, fun a h => E5.da a (e'.da a h)⟩, upd_same, n05, nd5, fun j c ec pc z => ?_, r5, q5⟩
        rcases wipeV_at ec with rfl | ⟨hj, ec⟩
        · cases pc
        obtain ⟨s, e1, r⟩ := S5.cell j c ec
        rw [o3 j hj, z] at e1
        cases e1
        cases c with
        | own l => obtain ⟨q, vs, e2, _, _, m1, _⟩ := r; cases e2; rw [fD] at m1; cases m1
        | obj q c l => obtain ⟨C, dx, vs, e2, _, _, _, _, _, m1, _⟩ := r; cases e2; rw [fD] at m1; cases m1
        | dic l => obtain ⟨q, vs, e2, _, _, m1, _⟩ := r; cases e2; rw [fD] at m1; cases m1
        | pin q l => obtain ⟨vs, e2, e0, _⟩ := r; cases e2; rw [E5.p] at e0; exact e0.2 rfl
        | _ => cases pc
      refine ⟨wipe_eq l3 o3, hc.h S3 q3 fun b T4 ρ4 S4 e4 q4 => ?_⟩
      have E4 := E2.trans e4
      cases b with
      | true =>
        refine iteT (he.h S4 (q4.1 rfl) fun y T5 d ρ5 S5 e5 r5 q5 => ?_)
        have E5 := E4.trans e5
        obtain ⟨hD5, N⟩ := fin T5 ρ5 (us ++ [y]) (acc ++ [d]) S5 E5 ((ra.mono E5.s0 E5.da).app (.cons r5 .nil)) q5.2
        exact ⟨us, hD5, by rw [ra.len]; exact q5.1, N⟩
      | false =>
        refine iteF ?_
        obtain ⟨hD5, N⟩ := fin T4 ρ4 us acc S4 E4 (ra.mono E4.s0 E4.da) (q4.2 rfl)
        have z : upd T4.H D (.lst us) = T4.H := by
          funext b
          by_cases hb : b = D
          · subst hb; rw [upd_same, hD5]
          · rw [upd_ne hb]
        rw [z] at N
        exact N
  · have z : i = ds.length := by omega
    subst z
    rw [List.drop_length] at q'
    refine .inl ⟨its.stop T' lat, ?_⟩
    exact q D us T' acc (backV ρ1 (wipeV ρ' vs) vs) (Sv.back S1 e' S') (e1.trans e') hD nF' n0' nd' (fun j c ec pc => nn' j c (back_priv ec pc) pc) ra q'⟩
variable {elt tg iter : Expr} {ifs : List Expr} {scope : Scope} {own : List (Str × Nat)} {pos : Pos} {ti : TI} {g : TG} {tt : TT} {te : TE} {ts : List Nat} {wi : WI} {wg : WG} {wc : WT} {we : WE}
structure VTs (Γ : Gx) (X : Cx) (ifs : List Expr) (t : TT) (w : WT) : Prop where
  pe : PTs X ifs t
  se : ST Γ t w
theorem vts_nil : VTs Γ X [] tYes wYes := ⟨pts_nil, st_yes⟩
theorem vts_one {c : Expr} {t : TT} {w : WT} (h : VT Γ X c t w) : VTs Γ X [c] t w := ⟨pts_one h.pe, h.se⟩
theorem vf_lc (hc : X.calm = true) (hN : X.N.Nodup) (hi : VI Γ X tg iter ti wi) (ok : BlkOk X.N X.env.scope scope own)
    (hg : ∀ (s : Shared) (H : Hp) (C : Addr) (cl : List (Str × Addr)) (fp : List Addr), VG Γ (X.blk s H scope (compEnvC scope cl C X.env) fp) tg g ts wg) (ht : ∀ (s : Shared) (H : Hp) (C : Addr) (cl : List (Str × Addr)) (fp : List Addr), VTs Γ (X.blk s H scope (compEnvC scope cl C X.env) fp) ifs tt wc)
    (he : ∀ (s : Shared) (H : Hp) (C : Addr) (cl : List (Str × Addr)) (fp : List Addr), VE Γ (X.blk s H scope (compEnvC scope cl C X.env) fp) elt te we) (hs : ∀ x, foldedSetIterable iter X.env x = pure x := by intro _; rfl) (hts : ∀ j ∈ ts, j ∈ own.map (·.2) := by decide) :
    VF Γ X (.ListComp elt [⟨tg, iter, ifs, 0⟩] scope pos) (tLc ti g tt te (own.map (·.2))) (wLc wi wg wc we (own.map (·.2))) :=
  ⟨pe_lc hc hN hi.pe ok (fun s H C cl fp => (hg s H C cl fp).pe) (fun s H C cl fp => (ht s H C cl fp).pe) (fun s H C cl fp => (he s H C cl fp).pe) hs, sf_lc hi.se (hg ({} : Shared) (fun _ => none) 0 [] []).se (ht ({} : Shared) (fun _ => none) 0 [] []).se (he ({} : Shared) (fun _ => none) 0 [] []).se hts⟩
theorem vs_setLc {i : Nat} {y : Str} {py : Pos} {spos : Pos} (hc : X.calm = true) (hN : X.N.Nodup) (hy : X.N[i]? = some y) (hyl : X.env.scope.names.lookup y = some .local)
    (hsw : swapsWith (.ListComp elt [⟨tg, iter, ifs, 0⟩] scope pos) (some (.Name y py)) spos.line X.env = pure true) (hi : VI Γ X tg iter ti wi) (ok : BlkOk X.N X.env.scope scope own)
    (hg : ∀ (s : Shared) (H : Hp) (C : Addr) (cl : List (Str × Addr)) (fp : List Addr), VG Γ (X.blk s H scope (compEnvC scope cl C X.env) fp) tg g ts wg) (ht : ∀ (s : Shared) (H : Hp) (C : Addr) (cl : List (Str × Addr)) (fp : List Addr), VTs Γ (X.blk s H scope (compEnvC scope cl C X.env) fp) ifs tt wc)
    (he : ∀ (s : Shared) (H : Hp) (C : Addr) (cl : List (Str × Addr)) (fp : List Addr), VE Γ (X.blk s H scope (compEnvC scope cl C X.env) fp) elt te we) (hs : ∀ x, foldedSetIterable iter X.env x = pure x := by intro _; rfl) (hts : ∀ j ∈ ts, j ∈ own.map (·.2) := by decide) :
    VS Γ X (.Assign [.Name y py] (.ListComp elt [⟨tg, iter, ifs, 0⟩] scope pos) spos) (tAsg (tLc ti g tt te (own.map (·.2))) (gName i)) (wSetF i (wLc wi wg wc we (own.map (·.2)))) :=
  ⟨ps_setLc hc hN hy hyl hsw hi.pe ok (fun s H C cl fp => (hg s H C cl fp).pe) (fun s H C cl fp => (ht s H C cl fp).pe) (fun s H C cl fp => (he s H C cl fp).pe) hs, ss_setF (sf_lc hi.se (hg ({} : Shared) (fun _ => none) 0 [] []).se (ht ({} : Shared) (fun _ => none) 0 [] []).se (he ({} : Shared) (fun _ => none) 0 [] []).se hts)⟩
end
end Vl

namespace Vl
open PySem PySem.Spec PyProof.Rows L2 Hl

/-! ### calls of the text's own defs -/
abbrev WF1 := List D → (D → Prop) → Prop
mutual
/-- no list in it -/
def D.free : D → Bool
  | .tup l => D.freeL l
  | .lst _ => false
  | .scr _ => false
  | .dct _ => false
  | .set _ => false
  | .obj _ fs => D.freeF fs
  | _ => true
def D.freeL : List D → Bool
  | [] => true
  | d :: l => d.free && D.freeL l
def D.freeF : List (Str × D) → Bool
  | [] => true
  | (_, d) :: l => d.free && D.freeF l
end
section
variable {Γ : Gx} {X : Cx} {T : Wo} {σ : L2.St} {ρ : Vn}
/-- behind what leaves one's own as it is -/
theorem Sv.after {H0' Hd' H' : Hp} (S : Sv Γ T σ ρ) (ok : Wo.Ok ⟨T.F, H0', Hd', H', T.P⟩) (s0 : Same T.H0 H0') (da : ∀ a, Γ.DA T.Hd a → Γ.DA Hd' a)
    (hp : ∀ p x, T.H p = some x → T.H0 p = none → T.Hd p = none → H' p = some x ∧ H0' p = none ∧ Hd' p = none) : Sv Γ ⟨T.F, H0', Hd', H', T.P⟩ σ ρ := by
  refine ⟨ok, S.len, fun i c e => ?_, S.dist⟩
  obtain ⟨s, e1, r1⟩ := S.cell i c e
  refine ⟨s, e1, ?_⟩
  cases c with
  | no => trivial
  | val d => obtain ⟨v, e2, r⟩ := r1; exact ⟨v, e2, r.mono s0 da⟩
  | own l => obtain ⟨q, us, e2, e3, r, m1, m2, m3⟩ := r1; obtain ⟨h1, h2, h3⟩ := hp q _ e3 m2 m3; exact ⟨q, us, e2, h1, r.mono s0 da, m1, h2, h3⟩
  | pin q l => obtain ⟨us, e2, e0, e3, r⟩ := r1; exact ⟨us, e2, e0, e3, r.mono s0 da⟩
  | obj q c fs => obtain ⟨C, dx, vf, e2, e3, m, cl, na, r, m1, m2, m3⟩ := r1; obtain ⟨h1, h2, h3⟩ := hp q _ e3 m2 m3; exact ⟨C, dx, vf, e2, h1, m, cl, na, r.mono s0 da, m1, h2, h3⟩
  | dic l => obtain ⟨q, us, e2, e3, r, m1, m2, m3⟩ := r1; obtain ⟨h1, h2, h3⟩ := hp q _ e3 m2 m3; exact ⟨q, us, e2, h1, r.mono s0 da, m1, h2, h3⟩
/-- what a def promises: by its meaning W -/
def spV (Γ : Gx) (W : WF1) : Sp := fun vs H Q _ => ∃ T ds P, T.H = H ∧ T.Ok ∧ RA Γ T.H0 T.Hd vs ds ∧ W ds P ∧ ∀ v T' d, T'.Ok → Ext Γ T T' → R Γ T'.H0 T'.Hd v d → P d → Q v T'.H
@[simp] def isO (ρ : Vn) : AI → Bool
  | .d _ => false
  | .sl i => match ρ.getD i .no with
    | .own _ => true
    | .pin _ _ => true
    | .dic _ => true
    | _ => false
@[simp] def wCall (W : WF1) (dd : List D) (w : WA) : WE := fun ρ Q => w ρ fun as ρ1 => rsN ρ1 as fun ds => W (ds ++ dd) fun d => (as.any (isO ρ1) = true → d.free = true) ∧ Q d ρ1
/-- addresses of one's own lists among the arguments -/
def Lent (σ : L2.St) (ρ : Vn) (as : List AI) (b : Addr) : Prop := ∃ i, AI.sl i ∈ as ∧ ((∃ l, ρ.getD i .no = .own l) ∨ (∃ q l, ρ.getD i .no = .pin q l) ∨ ∃ l, ρ.getD i .no = .dic l) ∧ σ[i]? = some (some (.ref b))
theorem Lent.at {as : List AI} {b : Addr} (S : Sv Γ T σ ρ) (h : Lent σ ρ as b) : ∃ o, T.H b = some o ∧ ((∃ vs, o = .lst vs) ∨ ∃ vs, o = .dK vs) ∧ T.H0 b = none ∧ T.Hd b = none := by
  obtain ⟨i, _, h, hs⟩ := h
  rcases h with ⟨l, e⟩ | ⟨q, l, e⟩ | ⟨l, e⟩
  · obtain ⟨s, e1, p, vs, e2, e3, r, n1, n2, n3⟩ := S.cell i _ (getD_of e (by simp))
    rw [hs] at e1; cases e1; cases e2
    exact ⟨_, e3, .inl ⟨vs, rfl⟩, n2, n3⟩
  · obtain ⟨s, e1, vs, e2, e0, e3, r⟩ := S.cell i _ (getD_of e (by simp))
    rw [hs] at e1; cases e1; cases e2
    exact ⟨_, S.ok.sF _ _ e3, .inl ⟨vs, rfl⟩, S.ok.F0 e3, S.ok.Fd e3⟩
  · obtain ⟨s, e1, p, vs, e2, e3, r, n1, n2, n3⟩ := S.cell i _ (getD_of e (by simp))
    rw [hs] at e1; cases e1; cases e2
    exact ⟨_, e3, .inr ⟨vs, rfl⟩, n2, n3⟩
open Classical in
noncomputable def lentH (T : Wo) (σ : L2.St) (ρ : Vn) (as : List AI) : Hp := fun b => if Lent σ ρ as b then T.H b else T.H0 b
open Classical in
theorem lentH_yes {as : List AI} {b : Addr} (h : Lent σ ρ as b) : lentH T σ ρ as b = T.H b := if_pos h
open Classical in
theorem lentH_no {as : List AI} {b : Addr} (h : ¬ Lent σ ρ as b) : lentH T σ ρ as b = T.H0 b := if_neg h
theorem lentH_same {as : List AI} (S : Sv Γ T σ ρ) : Same T.H0 (lentH T σ ρ as) := fun b x e => by
  by_cases h : Lent σ ρ as b
  · obtain ⟨vs, _, _, n, _⟩ := h.at S
    rw [n] at e; cases e
  · rw [lentH_no h]; exact e
theorem lent_args {as0 : List AI} (S : Sv Γ T σ ρ) : ∀ {vs : List V} {as : List AI} {k : List D → Prop}, (∀ a ∈ as, a ∈ as0) → ARs Γ T σ vs as → rsN ρ as k → ∃ ds, RA Γ (lentH T σ ρ as0) T.Hd vs ds ∧ k ds
  | _, _, _, _, .nil, h => ⟨[], .nil, h⟩
  | _, .d d :: as, _, hm, .cons a r, h => by
    obtain ⟨ds, r2, h⟩ := lent_args S (fun a h => hm a (List.mem_cons_of_mem _ h)) r h
    exact ⟨d :: ds, .cons (R.mono (lentH_same S) (fun _ h => h) a) r2, h⟩
  | v :: vs, .sl i :: as, _, hm, .cons a r, h => by
    have h : cRd (ρ.getD i .no) fun d => rsN ρ as fun ds => _ := h
    cases e : ρ.getD i .no with
    | val d =>
      rw [e] at h
      obtain ⟨s, e1, v', e2, rv⟩ := S.cell i _ (getD_of e (by simp))
      rw [show σ[i]? = some (some v) from a] at e1
      cases e1; cases e2
      obtain ⟨ds, r2, h⟩ := lent_args S (fun a h => hm a (List.mem_cons_of_mem _ h)) r h
      exact ⟨_, .cons (R.mono (lentH_same S) (fun _ h => h) rv) r2, h⟩
    | own l =>
      rw [e] at h
      obtain ⟨s, e1, p, us, e2, hp, rv, n⟩ := S.cell i _ (getD_of e (by simp))
      rw [show σ[i]? = some (some v) from a] at e1
      cases e1; cases e2
      obtain ⟨ds, r2, h⟩ := lent_args S (fun a h => hm a (List.mem_cons_of_mem _ h)) r h
      exact ⟨_, .cons (.lst (by rw [lentH_yes ⟨i, hm _ (List.mem_cons_self ..), .inl ⟨l, e⟩, a⟩]; exact hp) (rv.mono (lentH_same S) fun _ h => h)) r2, h⟩
    | pin q l =>
      rw [e] at h
      obtain ⟨s, e1, us, e2, e0, hp, rv⟩ := S.cell i _ (getD_of e (by simp))
      rw [show σ[i]? = some (some v) from a] at e1
      cases e1; cases e2
      obtain ⟨ds, r2, h⟩ := lent_args S (fun a h => hm a (List.mem_cons_of_mem _ h)) r h
      exact ⟨_, .cons (.lst (by rw [lentH_yes ⟨i, hm _ (List.mem_cons_self ..), .inr (.inl ⟨_, l, e⟩), a⟩]; exact S.ok.sF _ _ hp) (rv.mono (lentH_same S) fun _ h => h)) r2, h⟩
    | dic l =>
      rw [e] at h
      obtain ⟨s, e1, p, us, e2, hp, rv, n⟩ := S.cell i _ (getD_of e (by simp))
      rw [show σ[i]? = some (some v) from a] at e1
      cases e1; cases e2
      obtain ⟨ds, r2, h⟩ := lent_args S (fun a h => hm a (List.mem_cons_of_mem _ h)) r h
      exact ⟨_, .cons (.dct (by rw [lentH_yes ⟨i, hm _ (List.mem_cons_self ..), .inr (.inr ⟨l, e⟩), a⟩]; exact hp) (rv.mono (lentH_same S) fun _ h => h)) r2, h⟩
    | _ => rw [e] at h; exact h.elim
/-- a value without lists stands on what is no list -/
theorem free_sub {H0 H0' Hd : Hp} {L : Addr → Prop} (hL : ∀ b, L b → ∃ o, H0 b = some o ∧ ((∃ vs, o = .lst vs) ∨ ∃ vs, o = .dK vs)) (hn : ∀ b, ¬ L b → H0' b = H0 b) :
    (∀ {v : V} {d : D}, R Γ H0 Hd v d → d.free = true → R Γ H0' Hd v d) := by
  intro v d h
  refine R.rec (motive_1 := fun v d _ => d.free = true → R Γ H0' Hd v d) (motive_2 := fun vs l _ => D.freeL l = true → RA Γ H0' Hd vs l) (motive_3 := fun vs l _ => D.freeF l = true → RF Γ H0' Hd vs l) (motive_4 := fun vs l _ => True) ?_ ?_ ?_ ?_ ?_ ?_ ?_ ?_ ?_ ?_ ?_ ?_ ?_ ?_ ?_ ?_ ?_ h
  · exact fun _ => .non
  · exact fun b _ => .bl b
  · exact fun b _ => .int b
  · exact fun b _ => .str b
  · intro a vs l hs ra ih f
    refine .tup ?_ (ih f)
    rcases hs with (hs | ⟨o, hs⟩) | hs
    · exact .inl (.inl (by rw [hn a fun z => by obtain ⟨o, e, ⟨vs, rfl⟩ | ⟨vs, rfl⟩⟩ := hL a z <;> (rw [hs] at e; cases e)]; exact hs))
    · exact .inl (.inr ⟨o, by rw [hn a fun z => by obtain ⟨o, e, ⟨vs, rfl⟩ | ⟨vs, rfl⟩⟩ := hL a z <;> (rw [hs] at e; cases e)]; exact hs⟩)
    · exact .inr hs
  · intro a vs l hs ra ih f
    cases f
  · intro a C dx vf c df hs m cl na ra ih f
    exact .obj (by rw [hn a fun z => by obtain ⟨o, e, ⟨vs, rfl⟩ | ⟨vs, rfl⟩⟩ := hL a z <;> (rw [hs] at e; cases e)]; exact hs) m cl na (ih f)
  · exact fun h _ => .hnd h
  · intro a ns h f
    cases f
  · intro a vk dk hs ra ih f
    cases f
  · intro a ns c hs f
    cases f
  · exact fun _ => .nil
  · intro v d vs l h t ih1 ih2 f
    have f : (d.free && D.freeL l) = true := f
    rw [Bool.and_eq_true] at f
    exact .cons (ih1 f.1) (ih2 f.2)
  · exact fun _ => .nil
  · intro g v d vs l h t ih1 ih2 f
    have f : (d.free && D.freeF l) = true := f
    rw [Bool.and_eq_true] at f
    exact .cons (ih1 f.1) (ih2 f.2)
  · trivial
  · intros; trivial
/-- the outer part for a callee -/
def frH (H0 Hd H : Hp) : Hp := fun b => match H0 b, Hd b with
  | none, none => H b
  | _, _ => none
theorem frH_yes {H0 Hd H : Hp} {b : Addr} (h : H0 b = none) (h' : Hd b = none) : frH H0 Hd H b = H b := by unfold frH; rw [h, h']
theorem frH_some {H0 Hd H : Hp} {b : Addr} {x : HO} (h : frH H0 Hd H b = some x) : H0 b = none ∧ Hd b = none ∧ H b = some x := by
  unfold frH at h
  cases e : H0 b with
  | some y => rw [e] at h; cases h
  | none =>
    cases e' : Hd b with
    | some y => rw [e, e'] at h; cases h
    | none => rw [e, e'] at h; exact ⟨rfl, rfl, h⟩
theorem Sv.call {as : List AI} {vs : List V} {dv : List V} {dd : List D} {W : WF1} {Q : D → Prop} {Q' : VK} {E : XK} (S : Sv Γ T σ ρ) (ha : ARs Γ T σ vs as) (hd : ∀ H0 Hd, RA Γ H0 Hd dv dd)
    (h : Vl.rsN ρ as fun ds => W (ds ++ dd) fun d => (as.any (isO ρ) = true → d.free = true) ∧ Q d) (q : ∀ v T' d, Sv Γ T' σ ρ → Ext Γ T T' → R Γ T'.H0 T'.Hd v d → Q d → Q' v T'.H) : spV Γ W (vs ++ dv) T.H Q' E := by
  obtain ⟨ds, ra, h⟩ := lent_args (as0 := as) S (fun _ h => h) ha h
  have hz : ∀ {b x}, lentH T σ ρ as b = some x → T.H b = some x ∧ T.Hd b = none := fun {b x} e => by
    by_cases hl : Lent σ ρ as b
    · rw [lentH_yes hl] at e; exact ⟨e, (hl.at S).choose_spec.2.2.2⟩
    · rw [lentH_no hl] at e; exact ⟨S.ok.s0 _ _ e, S.ok.zd e⟩
  refine ⟨⟨frH (lentH T σ ρ as) T.Hd T.H, lentH T σ ρ as, T.Hd, T.H, fun _ => False⟩, ds ++ dd, _, rfl, ⟨fun b x e => (frH_some e).2.2, fun b x e => (hz e).1, S.ok.sd, fun {b x} e => (frH_some e).1, fun {b x} e => (frH_some e).2.1, fun {b x} e => (hz e).2⟩, ra.app (hd _ _), h, ?_⟩
  intro v T' d ok e r hQ
  have sL : Same (lentH T σ ρ as) T'.H0 := e.s0
  have fF : ∀ {b x}, T.H b = some x → T.H0 b = none → T.Hd b = none → ¬ Lent σ ρ as b → T'.F b = some x := fun {b x} e1 e2 e3 e4 => by
    rw [e.f]
    show frH (lentH T σ ρ as) T.Hd T.H b = some x
    rw [frH_yes (by rw [lentH_no e4]; exact e2) e3]; exact e1
  have lL : ∀ {b}, Lent σ ρ as b → ∃ us, T.H b = some us ∧ ((∃ vs, us = .lst vs) ∨ ∃ vs, us = .dK vs) ∧ T.H0 b = none ∧ T.Hd b = none ∧ T'.H0 b = some us := fun {b} hl => by
    obtain ⟨us, h1, hk, h2, h3⟩ := hl.at S
    exact ⟨us, h1, hk, h2, h3, sL _ _ (by rw [lentH_yes hl]; exact h1)⟩
  let H0n : Hp := fun b => open Classical in if Lent σ ρ as b then T.H0 b else T'.H0 b
  have ny : ∀ {b}, Lent σ ρ as b → H0n b = none := fun {b} hl => by
    show (open Classical in if Lent σ ρ as b then T.H0 b else T'.H0 b) = none
    rw [if_pos hl]; exact (hl.at S).choose_spec.2.2.1
  have nn : ∀ {b}, ¬ Lent σ ρ as b → H0n b = T'.H0 b := fun {b} hl => by
    show (open Classical in if Lent σ ρ as b then T.H0 b else T'.H0 b) = _
    rw [if_neg hl]
  have Fout : ∀ {b x}, T.F b = some x → T'.H b = some x ∧ H0n b = none ∧ T'.Hd b = none := fun {b x} eF => by
    by_cases hl : Lent σ ρ as b
    · obtain ⟨us, h1, _, h2, h3, h4⟩ := lL hl
      have h5 := S.ok.sF _ _ eF
      rw [h1] at h5; cases h5
      exact ⟨ok.s0 _ _ h4, ny hl, ok.zd h4⟩
    · have h5 := fF (S.ok.sF _ _ eF) (S.ok.F0 eF) (S.ok.Fd eF) hl
      exact ⟨ok.sF _ _ h5, by rw [nn hl]; exact ok.F0 h5, ok.Fd h5⟩
  have okn : Wo.Ok ⟨T.F, H0n, T'.Hd, T'.H, T.P⟩ := by
    refine ⟨fun b x e => (Fout e).1, fun b x e => ?_, ok.sd, fun {b x} e => (Fout e).2.1, fun {b x} e => (Fout e).2.2, fun {b x} e => ?_⟩
    · by_cases hl : Lent σ ρ as b
      · dsimp only at e; rw [ny hl] at e; cases e
      · dsimp only at e; rw [nn hl] at e; exact ok.s0 _ _ e
    · by_cases hl : Lent σ ρ as b
      · dsimp only at e; rw [ny hl] at e; cases e
      · dsimp only at e; rw [nn hl] at e; exact ok.zd e
  have s0n : Same T.H0 H0n := fun b x e => by
    by_cases hl : Lent σ ρ as b
    · rw [(hl.at S).choose_spec.2.2.1] at e; cases e
    · rw [nn hl]; exact sL _ _ (by rw [lentH_no hl]; exact e)
  have S' : Sv Γ ⟨T.F, H0n, T'.Hd, T'.H, T.P⟩ σ ρ := S.after okn s0n e.da fun p x h1 h2 h3 => by
    by_cases hl : Lent σ ρ as p
    · obtain ⟨us, k1, _, k2, k3, k4⟩ := lL hl
      rw [h1] at k1; cases k1
      exact ⟨ok.s0 _ _ k4, ny hl, ok.zd k4⟩
    · have h5 := fF h1 h2 h3 hl
      exact ⟨ok.sF _ _ h5, by rw [nn hl]; exact ok.F0 h5, ok.Fd h5⟩
  refine q v ⟨T.F, H0n, T'.Hd, T'.H, T.P⟩ d S' ⟨rfl, rfl, s0n, e.da⟩ ?_ hQ.2
  by_cases hany : as.any (isO ρ) = true
  · exact free_sub (L := Lent σ ρ as) (fun b hl => by obtain ⟨us, _, hk, _, _, h4⟩ := lL hl; exact ⟨us, h4, hk⟩) (fun b hl => nn hl) r (hQ.1 hany)
  · have z : H0n = T'.H0 := by
      funext b
      by_cases hl : Lent σ ρ as b
      · refine absurd ?_ hany
        obtain ⟨i, hm, ho, _⟩ := hl
        refine List.any_eq_true.mpr ⟨_, hm, ?_⟩
        rcases ho with ⟨l, e⟩ | ⟨q, l, e⟩ | ⟨l, e⟩
        · show (match ρ.getD i .no with | .own _ => true | .pin _ _ => true | .dic _ => true | _ => false) = true
          rw [e]
        · show (match ρ.getD i .no with | .own _ => true | .pin _ _ => true | .dic _ => true | _ => false) = true
          rw [e]
        · show (match ρ.getD i .no with | .own _ => true | .pin _ _ => true | .dic _ => true | _ => false) = true
          rw [e]
      · exact nn hl
    show R Γ H0n T'.Hd v d
    rw [z]; exact r
theorem spV_len {W : WF1} {n : Nat} {vs : List V} {H : Hp} {Q : VK} {E : XK} (hW : ∀ {ds P}, W ds P → ds.length = n) (h : spV Γ W vs H Q E) : vs.length = n := by
  obtain ⟨T, ds, P, rfl, ok, ra, hw, q⟩ := h
  rw [ra.len]; exact hW hw
/-- a def's meaning by its body's -/
@[simp] def wDef (n m : Nat) (b : WS) : WF1 := fun ds Q => ds.length = n ∧ b { nx := fun _ => Q .non, rt := Q } (ds.map Cell.val ++ List.replicate (m - n) .no)
theorem start_sv {N : List Str} {vs : List V} {ds : List D} (ok : T.Ok) (ra : RA Γ T.H0 T.Hd vs ds) : Sv Γ T (L2.start N vs) (ds.map Cell.val ++ List.replicate (N.length - ds.length) .no) := by
  have hat : ∀ {i : Nat} {c : Cell}, (ds.map Cell.val ++ List.replicate (N.length - ds.length) Cell.no)[i]? = some c → c = .no ∨ ∃ d, c = .val d ∧ ds[i]? = some d ∧ i < ds.length := fun {i c} e => by
    by_cases hi : i < ds.length
    · rw [List.getElem?_append_left (by simpa using hi), List.getElem?_map] at e
      cases z : ds[i]? with
      | none => rw [z] at e; cases e
      | some d => rw [z] at e; cases e; exact .inr ⟨d, rfl, rfl, hi⟩
    · rw [List.getElem?_append_right (by simpa using hi), List.getElem?_replicate] at e
      split at e
      · cases e; exact .inl rfl
      · cases e
  refine ⟨ok, by simp [L2.start, ra.len], fun i c e => ?_, fun i j p c c' e1 e2 p1 p2 _ _ => ?_⟩
  · have hl : i < (L2.start N vs).length := by
      obtain ⟨z, _⟩ := List.getElem?_eq_some_iff.mp e
      simp [L2.start, ra.len] at z ⊢
      exact z
    rcases hat e with rfl | ⟨d, rfl, hd, hi⟩
    · exact ⟨_, List.getElem?_eq_getElem hl, trivial⟩
    · obtain ⟨v, hv, r⟩ := ra.get hd
      refine ⟨some v, ?_, v, rfl, r⟩
      unfold L2.start
      rw [List.getElem?_append_left (by simpa [ra.len] using hi), List.getElem?_map, hv]
      rfl
  · rcases hat e1 with rfl | ⟨d, rfl, _⟩ <;> cases p1
theorem okV {N : List Str} {body : List Stmt} {t : TS} {b : WS} {vs : List V} {H : Hp} {Q : VK} {E : XK} {n m : Nat} (hN : N.length = m) (hb : VB Γ X body t b) (h : spV Γ (wDef n m b) vs H Q E) :
    ∃ t, PSs X body t ∧ t { nx := fun _ H' => Q .non H', rt := Q } (L2.start N vs) H := by
  obtain ⟨T, ds, P, rfl, ok, ra, ⟨hl, hw⟩, q⟩ := h
  subst hl hN
  exact ⟨t, hb.pe, hb.se.h (start_sv ok ra) hw (fun T' σ' ρ' S' e' h' => q .non T' .non S'.ok e' .non h') (fun T' v d ok' e' r' h' => q v T' d ok' e' r' h') (fun _ _ _ _ _ h => h.elim) (fun _ _ _ _ _ h => h.elim)⟩
variable {CX : CXT} {k : Nat} {f C : Addr} {fd : FuncData} {ps : List Str} {W : WF1} {E : XK} {x : Str} {p pos : Pos} {e : Expr} {es : List Expr} {t : TA} {w : WA} {dv : List V} {ds : List Value} {dd : List D}
theorem se_call (hd : ∀ H0 Hd, RA Γ H0 Hd dv dd) (ha : SA Γ t w) : SE Γ (tCall (spV Γ W) dv E t) (wCall W dd w) := ⟨fun {T σ ρ Q Q'} S hw q => ha.h S hw fun vs T1 as ρ1 S1 e1 r1 q1 =>
  S1.call r1 hd q1 fun v T2 d S2 e2 r2 q2 => q v T2 d ρ1 S2 (e1.trans e2) r2 q2⟩
theorem ve_call (F : FnOk X.prog X.w X.K X.mg X.base CX k f fd ps (spV Γ W)) (hr : Room k X.A) (hg : Gl X x) (hm : X.mg x = some (.ref f)) (hk : PySem.W.keepIn X.K (.ref f) = true) (hb : Binds X.K fd ps ds) (hdv : Vals dv ds) (hd : ∀ H0 Hd, RA Γ H0 Hd dv dd) (hx : Passes CX X E)
    (ha : VA Γ X (e :: es) t w) (hdb : (x == ("__debug__" : Str)) = false := by decide) (he : starEach (e :: es) X.env = (false, eval e X.env) :: starEach es X.env := by rfl) (hpl : (backTo pos (starEach es X.env)).any (·.1) = false := by rfl) :
    VE Γ X (.Call (.Name x p) (e :: es) [] pos) (tCall (spV Γ W) dv E t) (wCall W dd w) := ⟨pe_call F hr hg hm hk hb hdv hx ha.pe hdb he hpl, se_call hd ha.se⟩
end
end Vl

namespace Vl
open PySem PySem.Spec PyProof.Rows L2 Hl

/-! ### lists of ints, of bools -/
def D.intO : D → Option Int
  | .int i => some i
  | _ => none
def D.blO : D → Option Bool
  | .bl i => some i
  | _ => none
def intsO (l : List D) : Option (List Int) := l.mapM D.intO
def blsO (l : List D) : Option (List Bool) := l.mapM D.blO
theorem intsO_map (ns : List Int) : intsO (ns.map D.int) = some ns := by
  unfold intsO
  induction ns with
  | nil => rfl
  | cons n ns ih => simp [D.intO, ih]
theorem blsO_map (ns : List Bool) : blsO (ns.map D.bl) = some ns := by
  unfold blsO
  induction ns with
  | nil => rfl
  | cons n ns ih => simp [D.blO, ih]
theorem intsO_eq : ∀ {l : List D} {ns : List Int}, intsO l = some ns → l = ns.map D.int
  | [], ns, h => by cases h; rfl
  | d :: l, ns, h => by
    unfold intsO at h
    rw [List.mapM_cons] at h
    cases d <;> first | cases h | skip
    rename_i i
    cases e : l.mapM D.intO with
    | none => rw [e] at h; cases h
    | some m =>
      rw [e] at h
      cases h
      rw [List.map_cons, ← intsO_eq (l := l) e]
theorem blsO_eq : ∀ {l : List D} {ns : List Bool}, blsO l = some ns → l = ns.map D.bl
  | [], ns, h => by cases h; rfl
  | d :: l, ns, h => by
    unfold blsO at h
    rw [List.mapM_cons] at h
    cases d <;> first | cases h | skip
    rename_i i
    cases e : l.mapM D.blO with
    | none => rw [e] at h; cases h
    | some m =>
      rw [e] at h
      cases h
      rw [List.map_cons, ← blsO_eq (l := l) e]
theorem RA.ints {Γ : Gx} {H0 Hd : Hp} : ∀ {ns : List Int} {vs : List V}, RA Γ H0 Hd vs (ns.map D.int) → vs = ns.map V.int
  | [], _, h => by cases h; rfl
  | n :: ns, _, h => by
    cases h with
    | cons h t => cases h; rw [List.map_cons, ← RA.ints t]
theorem RA.bls {Γ : Gx} {H0 Hd : Hp} : ∀ {ns : List Bool} {vs : List V}, RA Γ H0 Hd vs (ns.map D.bl) → vs = ns.map V.bl
  | [], _, h => by cases h; rfl
  | n :: ns, _, h => by
    cases h with
    | cons h t => cases h; rw [List.map_cons, ← RA.bls t]
theorem ra_ints {Γ : Gx} {H0 Hd : Hp} : ∀ (ns : List Int), RA Γ H0 Hd (ns.map V.int) (ns.map D.int)
  | [] => .nil
  | n :: ns => .cons (.int n) (ra_ints ns)
/-! ### sorted ints -/
def insI (x : Int) : List Int → List Int
  | [] => [x]
  | y :: r => if x ≤ y then x :: y :: r else y :: insI x r
def sortI : List Int → List Int
  | [] => []
  | x :: r => insI x (sortI r)
theorem insI_perm (x : Int) : ∀ l, (insI x l).Perm (x :: l)
  | [] => .refl _
  | y :: r => by
    unfold insI
    split
    · exact .refl _
    · exact ((insI_perm x r).cons y).trans (.swap x y r)
theorem sortI_perm : ∀ l, (sortI l).Perm l
  | [] => .refl _
  | x :: r => (insI_perm x _).trans ((sortI_perm r).cons x)
theorem insI_sorted (x : Int) : ∀ l, l.Pairwise (· ≤ ·) → (insI x l).Pairwise (· ≤ ·)
  | [], _ => by simp [insI]
  | y :: r, h => by
    unfold insI
    rw [List.pairwise_cons] at h
    split
    · rename_i hxy
      refine List.pairwise_cons.mpr ⟨fun z hz => ?_, List.pairwise_cons.mpr h⟩
      rcases List.mem_cons.mp hz with rfl | hz
      · exact hxy
      · exact Int.le_trans hxy (h.1 z hz)
    · rename_i hxy
      refine List.pairwise_cons.mpr ⟨fun z hz => ?_, insI_sorted x r h.2⟩
      rcases List.mem_cons.mp ((insI_perm x r).mem_iff.mp hz) with rfl | hz
      · omega
      · exact h.1 z hz
theorem sortI_sorted : ∀ l, (sortI l).Pairwise (· ≤ ·)
  | [] => .nil
  | x :: r => insI_sorted x _ (sortI_sorted r)
theorem perm_sorted_eq : ∀ {l m : List Int}, l.Perm m → l.Pairwise (· ≤ ·) → m.Pairwise (· ≤ ·) → l = m
  | [], m, h, _, _ => h.nil_eq
  | x :: l, [], h, _, _ => absurd h.length_eq (by simp)
  | x :: l, y :: m, h, h1, h2 => by
    rw [List.pairwise_cons] at h1 h2
    have e : x = y := by
      have hx : x ∈ y :: m := h.mem_iff.mp (List.mem_cons_self ..)
      have hy : y ∈ x :: l := h.mem_iff.mpr (List.mem_cons_self ..)
      rcases List.mem_cons.mp hx with e | hx
      · exact e
      · rcases List.mem_cons.mp hy with e | hy
        · exact e.symm
        · exact Int.le_antisymm (h1.1 y hy) (h2.1 x hx)
    subst e
    rw [perm_sorted_eq (List.Perm.cons_inv h) h1.2 h2.2]
/-! ### the built-in functions by values -/
@[simp] def gLen : GN
  | [.lst l], k => k (.int l.length)
  | [.tup l], k => k (.int l.length)
  | [.str z], k => z.length ≤ sizeLine ∧ k (.int z.length)
  | _, _ => False
@[simp] def gTuple : GN
  | [.lst l], k => k (.tup l)
  | [.tup l], k => k (.tup l)
  | _, _ => False
@[simp] def fList : FN
  | [.lst l], k => k l
  | [.tup l], k => k l
  | _, _ => False
@[simp] def gInt : GN
  | [.int i], k => k (.int i)
  | [.bl b], k => k (.int (if b then 1 else 0))
  | _, _ => False
@[simp] def gBool : GN
  | [.int i], k => k (.bl (i != 0))
  | [.bl b], k => k (.bl b)
  | _, _ => False
@[simp] def gAbs : GN
  | [.int i], k => k (.int i.natAbs)
  | _, _ => False
@[simp] def gSum : GN
  | [.lst l], k => oK (intsO l) fun ns => k (.int ns.sum)
  | _, _ => False
def maxI : List Int → Int
  | [] => 0
  | n :: ns => ns.foldl max n
def minI : List Int → Int
  | [] => 0
  | n :: ns => ns.foldl min n
@[simp] def gMax : GN
  | [.int i, .int j], k => k (.int (max i j))
  | [.int i, .int j, .int l], k => k (.int (max (max i j) l))
  | [.lst l], k => oK (intsO l) fun ns => 0 < ns.length ∧ k (.int (maxI ns))
  | [.tup l], k => oK (intsO l) fun ns => 0 < ns.length ∧ k (.int (maxI ns))
  | _, _ => False
@[simp] def gMin : GN
  | [.int i, .int j], k => k (.int (min i j))
  | [.int i, .int j, .int l], k => k (.int (min (min i j) l))
  | [.lst l], k => oK (intsO l) fun ns => 0 < ns.length ∧ k (.int (minI ns))
  | [.tup l], k => oK (intsO l) fun ns => 0 < ns.length ∧ k (.int (minI ns))
  | _, _ => False
theorem foldl_max : ∀ (ns : List Int) (n : Int), (ns.foldl max n = n ∨ ns.foldl max n ∈ ns) ∧ n ≤ ns.foldl max n ∧ ∀ y ∈ ns, y ≤ ns.foldl max n
  | [], n => ⟨.inl rfl, Int.le_refl _, fun _ h => by simp at h⟩
  | m :: ns, n => by
    obtain ⟨h1, h2, h3⟩ := foldl_max ns (max n m)
    rw [List.foldl_cons]
    refine ⟨?_, by omega, fun y hy => ?_⟩
    · rcases h1 with h1 | h1
      · rw [h1]
        by_cases z : m ≤ n
        · exact .inl (by omega)
        · exact .inr (by rw [show max n m = m by omega]; simp)
      · exact .inr (List.mem_cons_of_mem _ h1)
    · rcases List.mem_cons.mp hy with rfl | hy
      · omega
      · exact h3 y hy
theorem foldl_min : ∀ (ns : List Int) (n : Int), (ns.foldl min n = n ∨ ns.foldl min n ∈ ns) ∧ ns.foldl min n ≤ n ∧ ∀ y ∈ ns, ns.foldl min n ≤ y
  | [], n => ⟨.inl rfl, Int.le_refl _, fun _ h => by simp at h⟩
  | m :: ns, n => by
    obtain ⟨h1, h2, h3⟩ := foldl_min ns (min n m)
    rw [List.foldl_cons]
    refine ⟨?_, by omega, fun y hy => ?_⟩
    · rcases h1 with h1 | h1
      · rw [h1]
        by_cases z : n ≤ m
        · exact .inl (by omega)
        · exact .inr (by rw [show min n m = m by omega]; simp)
      · exact .inr (List.mem_cons_of_mem _ h1)
    · rcases List.mem_cons.mp hy with rfl | hy
      · omega
      · exact h3 y hy
theorem maxI_mem {ns : List Int} (h : 0 < ns.length) : maxI ns ∈ ns ∧ ∀ y ∈ ns, y ≤ maxI ns := by
  cases ns with
  | nil => simp at h
  | cons n ns =>
    obtain ⟨h1, h2, h3⟩ := foldl_max ns n
    refine ⟨?_, fun y hy => ?_⟩
    · rcases h1 with h1 | h1
      · exact List.mem_cons.mpr (.inl h1)
      · exact List.mem_cons_of_mem _ h1
    · rcases List.mem_cons.mp hy with rfl | hy
      · exact h2
      · exact h3 y hy
theorem minI_mem {ns : List Int} (h : 0 < ns.length) : minI ns ∈ ns ∧ ∀ y ∈ ns, minI ns ≤ y := by
  cases ns with
  | nil => simp at h
  | cons n ns =>
    obtain ⟨h1, h2, h3⟩ := foldl_min ns n
    refine ⟨?_, fun y hy => ?_⟩
    · rcases h1 with h1 | h1
      · exact List.mem_cons.mpr (.inl h1)
      · exact List.mem_cons_of_mem _ h1
    · rcases List.mem_cons.mp hy with rfl | hy
      · exact h2
      · exact h3 y hy
theorem maxI_is {ns : List Int} {m : Int} (h : m ∈ ns) (h' : ∀ y ∈ ns, y ≤ m) : m = maxI ns := by
  obtain ⟨h1, h2⟩ := maxI_mem (List.length_pos_of_mem h)
  exact Int.le_antisymm (h2 m h) (h' _ h1)
theorem minI_is {ns : List Int} {m : Int} (h : m ∈ ns) (h' : ∀ y ∈ ns, m ≤ y) : m = minI ns := by
  obtain ⟨h1, h2⟩ := minI_mem (List.length_pos_of_mem h)
  exact Int.le_antisymm (h' _ h1) (h2 m h)
@[simp] def gAll : GN
  | [.lst l], k => oK (blsO l) fun bs => k (.bl (bs.all id))
  | _, _ => False
@[simp] def gAny : GN
  | [.lst l], k => oK (blsO l) fun bs => k (.bl (bs.any id))
  | _, _ => False
@[simp] def fSorted : FN
  | [.lst l], k => oK (intsO l) fun ns => k ((sortI ns).map D.int)
  | [.tup l], k => oK (intsO l) fun ns => k ((sortI ns).map D.int)
  | _, _ => False
section
variable {Γ : Gx} {T : Wo}
abbrev rLenP (K : PySem.W.Frag) : List V → Hp → VK → Prop := fun xs H Q => (∃ p ys, xs = [.ref p] ∧ (SqL K H p ys ∨ SqT K H p ys) ∧ Q (.int ys.length) H) ∨ (∃ z, xs = [.str z] ∧ z.length ≤ sizeLine ∧ Q (.int z.length) H)
theorem cr_lenP {X : Cx} {K : PySem.W.Frag} (h : X.K = K) : CallR X (.builtin "len") (rLenP K) := by subst h; exact cr_or call_len_seq call_len_str
theorem cs_len : CS Γ (rLenP Γ.K) gLen := ⟨fun {T xs as Q Q'} ok r h q => by
  unfold gLen at h
  split at h
  · obtain ⟨v, rfl, r'⟩ := r.one
    obtain ⟨p, vs, rfl, hp, rp⟩ := r'.lst ok
    refine .inl ⟨p, vs, rfl, .inl (SqL.of hp), ?_⟩
    rw [rp.len]; exact gr_sc ok q (.int _) h
  · obtain ⟨v, rfl, r'⟩ := r.one
    obtain ⟨p, vs, rfl, hp, rp⟩ := r'.tup ok
    refine .inl ⟨p, vs, rfl, .inr hp, ?_⟩
    rw [rp.len]; exact gr_sc ok q (.int _) h
  · obtain ⟨v, rfl, r'⟩ := r.one
    cases r'.str
    exact .inr ⟨_, rfl, h.1, gr_sc ok q (.int _) h.2⟩
  · exact h.elim⟩
abbrev rTupleP (K : PySem.W.Frag) : List V → Hp → VK → Prop := fun xs H Q => ∃ p ys, xs = [.ref p] ∧ ((SqL K H p ys ∧ ∀ l, H l = none → Q (.ref l) (upd H l (.tup ys))) ∨ (SqT K H p ys ∧ Q (.ref p) H))
theorem cs_tuple : CS Γ (rTupleP Γ.K) gTuple := ⟨fun {T xs as Q Q'} ok r h q => by
  unfold gTuple at h
  split at h
  · obtain ⟨v, rfl, r'⟩ := r.one
    obtain ⟨p, vs, rfl, hp, rp⟩ := r'.lst ok
    exact ⟨p, vs, rfl, .inl ⟨SqL.of hp, fun l n => gr_new ok q n (r_tup ok n rp) h⟩⟩
  · obtain ⟨v, rfl, r'⟩ := r.one
    obtain ⟨p, vs, rfl, hp, rp⟩ := r'.tup ok
    refine ⟨p, vs, rfl, .inr ⟨hp, ?_⟩⟩
    cases r' with
    | sh r => exact gr_sc ok q r h
  · exact h.elim⟩
abbrev rListP (K : PySem.W.Frag) : List V → Hp → VK → Prop := fun xs H Q => ∃ p ys, xs = [.ref p] ∧ (SqL K H p ys ∨ SqT K H p ys) ∧ ∀ l, H l = none → Q (.ref l) (upd H l (.lst ys))
theorem csf_list : CSF Γ (rListP Γ.K) fList := ⟨fun {T xs as Q Q'} ok r h q => by
  unfold fList at h
  split at h
  · obtain ⟨v, rfl, r'⟩ := r.one
    obtain ⟨p, vs, rfl, hp, rp⟩ := r'.lst ok
    exact ⟨p, vs, rfl, .inl (SqL.of hp), fun l n => q l _ _ n rp h⟩
  · obtain ⟨v, rfl, r'⟩ := r.one
    obtain ⟨p, vs, rfl, hp, rp⟩ := r'.tup ok
    exact ⟨p, vs, rfl, .inr hp, fun l n => q l _ _ n rp h⟩
  · exact h.elim⟩
abbrev rInt1 : List V → Hp → VK → Prop := fun xs H Q => (∃ i, xs = [.int i] ∧ Q (.int i) H) ∨ ∃ k, xs = [.bl k] ∧ Q (.int (if k then 1 else 0)) H
abbrev rBool1 : List V → Hp → VK → Prop := fun xs H Q => (∃ i, xs = [.int i] ∧ Q (.bl (i != 0)) H) ∨ ∃ k, xs = [.bl k] ∧ Q (.bl k) H
theorem cs_int : CS Γ rInt1 gInt := ⟨fun {T xs as Q Q'} ok r h q => by
  unfold gInt at h
  split at h
  · obtain ⟨v, rfl, r'⟩ := r.one
    cases r'.int
    exact .inl ⟨_, rfl, gr_sc ok q (.int _) h⟩
  · obtain ⟨v, rfl, r'⟩ := r.one
    cases r'.bl
    exact .inr ⟨_, rfl, gr_sc ok q (.int _) h⟩
  · exact h.elim⟩
theorem cs_bool : CS Γ rBool1 gBool := ⟨fun {T xs as Q Q'} ok r h q => by
  unfold gBool at h
  split at h
  · obtain ⟨v, rfl, r'⟩ := r.one
    cases r'.int
    exact .inl ⟨_, rfl, gr_sc ok q (.bl _) h⟩
  · obtain ⟨v, rfl, r'⟩ := r.one
    cases r'.bl
    exact .inr ⟨_, rfl, gr_sc ok q (.bl _) h⟩
  · exact h.elim⟩
theorem cs_abs : CS Γ (fun xs H Q => ∃ i, xs = [.int i] ∧ Q (.int (if i < 0 then -i else i)) H) gAbs := ⟨fun {T xs as Q Q'} ok r h q => by
  unfold gAbs at h
  split at h
  · obtain ⟨v, rfl, r'⟩ := r.one
    cases r'.int
    rename_i k i
    refine ⟨_, rfl, ?_⟩
    rw [show (if i < 0 then -i else i) = (i.natAbs : Int) by split <;> omega]
    exact gr_sc ok q (.int _) h
  · exact h.elim⟩
theorem cs_sum : CS Γ (rSum Γ.K) gSum := ⟨fun {T xs as Q Q'} ok r h q => by
  unfold gSum at h
  split at h
  · obtain ⟨v, rfl, r'⟩ := r.one
    obtain ⟨ns, e, h'⟩ := oK_of h
    replace h := h'
    clear h'
    cases intsO_eq e
    obtain ⟨p, vs, rfl, hp, rp⟩ := r'.lst ok
    cases rp.ints
    exact ⟨p, ns, rfl, SqL.of hp, gr_sc ok q (.int _) h⟩
  · exact h.elim⟩
theorem cs_all : CS Γ (rAll Γ.K) gAll := ⟨fun {T xs as Q Q'} ok r h q => by
  unfold gAll at h
  split at h
  · obtain ⟨v, rfl, r'⟩ := r.one
    obtain ⟨ns, e, h'⟩ := oK_of h
    replace h := h'
    clear h'
    cases blsO_eq e
    obtain ⟨p, vs, rfl, hp, rp⟩ := r'.lst ok
    cases rp.bls
    exact ⟨p, ns, rfl, SqL.of hp, gr_sc ok q (.bl _) h⟩
  · exact h.elim⟩
theorem cs_any : CS Γ (rAny Γ.K) gAny := ⟨fun {T xs as Q Q'} ok r h q => by
  unfold gAny at h
  split at h
  · obtain ⟨v, rfl, r'⟩ := r.one
    obtain ⟨ns, e, h'⟩ := oK_of h
    replace h := h'
    clear h'
    cases blsO_eq e
    obtain ⟨p, vs, rfl, hp, rp⟩ := r'.lst ok
    cases rp.bls
    exact ⟨p, ns, rfl, SqL.of hp, gr_sc ok q (.bl _) h⟩
  · exact h.elim⟩
abbrev rMaxP (K : PySem.W.Frag) : List V → Hp → VK → Prop := fun xs H Q => (∃ i j, xs = [.int i, .int j] ∧ Q (.int (if j > i then j else i)) H) ∨ (rMax3 xs H Q ∨ (rMax K xs H Q ∨ rMaxT K xs H Q))
abbrev rMinP (K : PySem.W.Frag) : List V → Hp → VK → Prop := fun xs H Q => (∃ i j, xs = [.int i, .int j] ∧ Q (.int (if j < i then j else i)) H) ∨ (rMin3 xs H Q ∨ (rMin K xs H Q ∨ rMinT K xs H Q))
theorem cr_maxP {X : Cx} {K : PySem.W.Frag} (h : X.K = K) (hc : X.calm = true) (hu : X.A.units + 65 < cLine) : CallR X (.builtin "max") (rMaxP K) := by subst h; exact cr_or (call_max2 hc) (cr_or (call_max3I hc) (cr_or (cr_max hc) (cr_maxT hc hu)))
theorem cr_minP {X : Cx} {K : PySem.W.Frag} (h : X.K = K) (hc : X.calm = true) (hu : X.A.units + 65 < cLine) : CallR X (.builtin "min") (rMinP K) := by subst h; exact cr_or (call_min2 hc) (cr_or (call_min3I hc) (cr_or (cr_min hc) (cr_minT hc hu)))
theorem cs_max : CS Γ (rMaxP Γ.K) gMax := ⟨fun {T xs as Q Q'} ok r h q => by
  unfold gMax at h
  split at h
  · rename_i k i j
    obtain ⟨v, u, rfl, r1, r2⟩ := r.two
    cases r1.int; cases r2.int
    refine .inl ⟨_, _, rfl, ?_⟩
    rw [show (if j > i then j else i) = max i j by split <;> omega]
    exact gr_sc ok q (.int _) h
  · rename_i k i j l
    obtain ⟨v, u, w, rfl, r1, r2, r3⟩ := r.three
    cases r1.int; cases r2.int; cases r3.int
    refine .inr (.inl ⟨_, _, _, rfl, ?_⟩)
    rw [show (if l > (if j > i then j else i) then l else (if j > i then j else i)) = max (max i j) l by split <;> split <;> omega]
    exact gr_sc ok q (.int _) h
  · obtain ⟨v, rfl, r'⟩ := r.one
    obtain ⟨ns, e, hn, h'⟩ := oK_of h
    replace h := h'
    clear h'
    cases intsO_eq e
    obtain ⟨p, vs, rfl, hp, rp⟩ := r'.lst ok
    cases rp.ints
    refine .inr (.inr (.inl ⟨p, ns, rfl, SqL.of hp, hn, fun m h1 h2 => ?_⟩))
    rw [maxI_is h1 h2]
    exact gr_sc ok q (.int _) h
  · obtain ⟨v, rfl, r'⟩ := r.one
    obtain ⟨ns, e, hn, h'⟩ := oK_of h
    replace h := h'
    clear h'
    cases intsO_eq e
    obtain ⟨p, vs, rfl, hp, rp⟩ := r'.tup ok
    cases rp.ints
    cases ns with
    | nil => simp at hn
    | cons n ns => exact .inr (.inr (.inr ⟨p, n, ns, rfl, hp, gr_sc ok q (.int _) h⟩))
  · exact h.elim⟩
theorem cs_min : CS Γ (rMinP Γ.K) gMin := ⟨fun {T xs as Q Q'} ok r h q => by
  unfold gMin at h
  split at h
  · rename_i k i j
    obtain ⟨v, u, rfl, r1, r2⟩ := r.two
    cases r1.int; cases r2.int
    refine .inl ⟨_, _, rfl, ?_⟩
    rw [show (if j < i then j else i) = min i j by split <;> omega]
    exact gr_sc ok q (.int _) h
  · rename_i k i j l
    obtain ⟨v, u, w, rfl, r1, r2, r3⟩ := r.three
    cases r1.int; cases r2.int; cases r3.int
    refine .inr (.inl ⟨_, _, _, rfl, ?_⟩)
    rw [show (if l < (if j < i then j else i) then l else (if j < i then j else i)) = min (min i j) l by split <;> split <;> omega]
    exact gr_sc ok q (.int _) h
  · obtain ⟨v, rfl, r'⟩ := r.one
    obtain ⟨ns, e, hn, h'⟩ := oK_of h
    replace h := h'
    clear h'
    cases intsO_eq e
    obtain ⟨p, vs, rfl, hp, rp⟩ := r'.lst ok
    cases rp.ints
    refine .inr (.inr (.inl ⟨p, ns, rfl, SqL.of hp, hn, fun m h1 h2 => ?_⟩))
    rw [minI_is h1 h2]
    exact gr_sc ok q (.int _) h
  · obtain ⟨v, rfl, r'⟩ := r.one
    obtain ⟨ns, e, hn, h'⟩ := oK_of h
    replace h := h'
    clear h'
    cases intsO_eq e
    obtain ⟨p, vs, rfl, hp, rp⟩ := r'.tup ok
    cases rp.ints
    cases ns with
    | nil => simp at hn
    | cons n ns => exact .inr (.inr (.inr ⟨p, n, ns, rfl, hp, gr_sc ok q (.int _) h⟩))
  · exact h.elim⟩
abbrev rSortedP2 (K : PySem.W.Frag) : List V → Hp → VK → Prop := fun xs H Q => rSortedI K xs H Q ∨ rSortedTI K xs H Q
theorem cr_sortedP2 {X : Cx} {K : PySem.W.Frag} (h : X.K = K) : CallR X (.builtin "sorted") (rSortedP2 K) := by subst h; exact cr_or cr_sortedI cr_sortedTI
theorem csf_sorted : CSF Γ (rSortedP2 Γ.K) fSorted := ⟨fun {T xs as Q Q'} ok r h q => by
  unfold fSorted at h
  split at h
  · obtain ⟨v, rfl, r'⟩ := r.one
    obtain ⟨ns, e, h'⟩ := oK_of h
    replace h := h'
    clear h'
    cases intsO_eq e
    obtain ⟨p, vs, rfl, hp, rp⟩ := r'.lst ok
    cases rp.ints
    refine .inl ⟨p, ns, rfl, SqL.of hp, fun ns' a h1 h2 n => ?_⟩
    rw [perm_sorted_eq (h1.trans (sortI_perm ns).symm) h2 (sortI_sorted ns)]
    exact q a _ _ n (ra_ints _) h
  · obtain ⟨v, rfl, r'⟩ := r.one
    obtain ⟨ns, e, h'⟩ := oK_of h
    replace h := h'
    clear h'
    cases intsO_eq e
    obtain ⟨p, vs, rfl, hp, rp⟩ := r'.tup ok
    cases rp.ints
    refine .inr ⟨p, ns, rfl, hp, fun ns' a h1 h2 n => ?_⟩
    rw [perm_sorted_eq (h1.trans (sortI_perm ns).symm) h2 (sortI_sorted ns)]
    exact q a _ _ n (ra_ints _) h
  · exact h.elim⟩
/-! ### * -/
abbrev rMulP (K : PySem.W.Frag) : R2 := fun x y H Q => rI CMulW (fun i j => .int (i * j)) x y H Q ∨ (rRep x y H Q ∨ rRepT K x y H Q)
theorem op_mulP {X : Cx} {K : PySem.W.Frag} (h : X.K = K) : OpR X (binaryOp .Mult) (rMulP K) := by subst h; exact opr_or op_mulW (opr_or op_rep op_repT)
def repD (l : List D) (k : Nat) : List D := (List.replicate k l).flatten
theorem RA.rep {H0 Hd : Hp} {vs : List V} {l : List D} (h : RA Γ H0 Hd vs l) : ∀ k, RA Γ H0 Hd (List.replicate k vs).flatten (List.replicate k l).flatten
  | 0 => .nil
  | k + 1 => by
    rw [List.replicate_succ, List.replicate_succ, List.flatten_cons, List.flatten_cons]
    exact h.app (RA.rep h k)
@[simp] def gMul : G2
  | .int i, .int j, k => CMulW i j ∧ k (.int (i * j))
  | .lst l, .int j, k => (-(2 ^ 63) ≤ j ∧ j < 2 ^ 63 ∧ l.length * j.toNat ≤ sizeLine) ∧ k (.lst (repD l j.toNat))
  | .tup l, .int j, k => (l ≠ [] ∧ 2 ≤ j ∧ j ≤ 1000 ∧ l.length ≤ 1000) ∧ k (.tup (repD l j.toNat))
  | _, _, _ => False
@[simp] def fRep : F2
  | .lst l, .int j, k => (-(2 ^ 63) ≤ j ∧ j < 2 ^ 63 ∧ l.length * j.toNat ≤ sizeLine) ∧ k (repD l j.toNat)
  | _, _, _ => False
theorem os_mul : OS Γ (rMulP Γ.K) gMul := ⟨fun {T x y a b Q Q'} ok rx ry h q => by
  cases a <;> cases b <;> first | exact h.elim | skip
  · cases rx.int; cases ry.int
    exact .inl ⟨_, _, rfl, rfl, h.1, gr_sc ok q (.int _) h.2⟩
  · obtain ⟨p, vs, rfl, hp, rp⟩ := rx.tup ok
    cases ry.int
    obtain ⟨⟨h1, h2, h3, h4⟩, h⟩ := h
    refine .inr (.inr ⟨p, _, vs, rfl, rfl, hp, fun z => h1 ?_, h2, h3, by rw [rp.len]; exact h4, fun a n => gr_new ok q n (r_tup ok n (rp.rep _)) h⟩)
    subst z; cases rp; rfl
  · obtain ⟨p, vs, rfl, hp, rp⟩ := rx.lst ok
    cases ry.int
    obtain ⟨⟨h1, h2, h3⟩, h⟩ := h
    exact .inr (.inl ⟨p, _, vs, rfl, rfl, hp, h1, h2, by rw [rp.len]; exact h3, fun a n => gr_new ok q n (r_lst ok n (rp.rep _)) h⟩)⟩
theorem osf_rep : OSF Γ rRep fRep := ⟨fun {T x y a b Q Q'} ok rx ry h q => by
  cases a <;> cases b <;> first | exact h.elim | skip
  obtain ⟨p, vs, rfl, hp, rp⟩ := rx.lst ok
  cases ry.int
  obtain ⟨⟨h1, h2, h3⟩, h⟩ := h
  exact ⟨p, _, vs, rfl, rfl, hp, h1, h2, by rw [rp.len]; exact h3, fun a n => q a _ _ n (rp.rep _) h⟩⟩
/-! ### isinstance -/
inductive Tn where
  | int | bool | str | tuple | list
def Tn.nm : Tn → String
  | .int => "int" | .bool => "bool" | .str => "str" | .tuple => "tuple" | .list => "list"
@[simp] def D.isTy : Tn → D → Bool
  | .bool, .bl _ => true
  | .int, .bl _ => true
  | .int, .int _ => true
  | .str, .str _ => true
  | .tuple, .tup _ => true
  | .list, .lst _ => true
  | _, _ => false
inductive TyN : D → String → Prop
  | non : TyN .non "NoneType"
  | bl (b) : TyN (.bl b) "bool"
  | int (b) : TyN (.int b) "int"
  | str (b) : TyN (.str b) "str"
  | tup (b) : TyN (.tup b) "tuple"
  | lst (b) : TyN (.lst b) "list"
theorem kt_NoneType_int : kitB "NoneType" "int" = some false := by decide +kernel
theorem kt_NoneType_bool : kitB "NoneType" "bool" = some false := by decide +kernel
theorem kt_NoneType_str : kitB "NoneType" "str" = some false := by decide +kernel
theorem kt_NoneType_tuple : kitB "NoneType" "tuple" = some false := by decide +kernel
theorem kt_NoneType_list : kitB "NoneType" "list" = some false := by decide +kernel
theorem kt_bool_int : kitB "bool" "int" = some true := by decide +kernel
theorem kt_bool_bool : kitB "bool" "bool" = some true := by decide +kernel
theorem kt_bool_str : kitB "bool" "str" = some false := by decide +kernel
theorem kt_bool_tuple : kitB "bool" "tuple" = some false := by decide +kernel
theorem kt_bool_list : kitB "bool" "list" = some false := by decide +kernel
theorem kt_int_int : kitB "int" "int" = some true := by decide +kernel
theorem kt_int_bool : kitB "int" "bool" = some false := by decide +kernel
theorem kt_int_str : kitB "int" "str" = some false := by decide +kernel
theorem kt_int_tuple : kitB "int" "tuple" = some false := by decide +kernel
theorem kt_int_list : kitB "int" "list" = some false := by decide +kernel
theorem kt_str_int : kitB "str" "int" = some false := by decide +kernel
theorem kt_str_bool : kitB "str" "bool" = some false := by decide +kernel
theorem kt_str_str : kitB "str" "str" = some true := by decide +kernel
theorem kt_str_tuple : kitB "str" "tuple" = some false := by decide +kernel
theorem kt_str_list : kitB "str" "list" = some false := by decide +kernel
theorem kt_tuple_int : kitB "tuple" "int" = some false := by decide +kernel
theorem kt_tuple_bool : kitB "tuple" "bool" = some false := by decide +kernel
theorem kt_tuple_str : kitB "tuple" "str" = some false := by decide +kernel
theorem kt_tuple_tuple : kitB "tuple" "tuple" = some true := by decide +kernel
theorem kt_tuple_list : kitB "tuple" "list" = some false := by decide +kernel
theorem kt_list_int : kitB "list" "int" = some false := by decide +kernel
theorem kt_list_bool : kitB "list" "bool" = some false := by decide +kernel
theorem kt_list_str : kitB "list" "str" = some false := by decide +kernel
theorem kt_list_tuple : kitB "list" "tuple" = some false := by decide +kernel
theorem kt_list_list : kitB "list" "list" = some true := by decide +kernel
theorem kit_tab {d : D} {S : String} {U : Tn} (h : TyN d S) : kitB S U.nm = some (d.isTy U) := by
  cases h with
  | non =>
    cases U with
    | int => exact kt_NoneType_int
    | bool => exact kt_NoneType_bool
    | str => exact kt_NoneType_str
    | tuple => exact kt_NoneType_tuple
    | list => exact kt_NoneType_list
  | bl b =>
    cases U with
    | int => exact kt_bool_int
    | bool => exact kt_bool_bool
    | str => exact kt_bool_str
    | tuple => exact kt_bool_tuple
    | list => exact kt_bool_list
  | int b =>
    cases U with
    | int => exact kt_int_int
    | bool => exact kt_int_bool
    | str => exact kt_int_str
    | tuple => exact kt_int_tuple
    | list => exact kt_int_list
  | str b =>
    cases U with
    | int => exact kt_str_int
    | bool => exact kt_str_bool
    | str => exact kt_str_str
    | tuple => exact kt_str_tuple
    | list => exact kt_str_list
  | tup b =>
    cases U with
    | int => exact kt_tuple_int
    | bool => exact kt_tuple_bool
    | str => exact kt_tuple_str
    | tuple => exact kt_tuple_tuple
    | list => exact kt_tuple_list
  | lst b =>
    cases U with
    | int => exact kt_list_int
    | bool => exact kt_list_bool
    | str => exact kt_list_str
    | tuple => exact kt_list_tuple
    | list => exact kt_list_list
@[simp] def D.tyN : D → Bool
  | .obj _ _ => false
  | .hnd => false
  | .scr _ => false
  | .dct _ => false
  | .set _ => false
  | _ => true
theorem ro_ty {v : V} {d : D} (ok : T.Ok) (r : RO Γ T v d) (h : d.tyN = true) : ∃ S, TyN d S ∧ TyX Γ.K T.H v (.type S) := by
  cases d <;> first | cases h | skip
  · cases r.non; exact ⟨_, .non, .base .non⟩
  · cases r.bl; exact ⟨_, .bl _, .base (.bl _)⟩
  · cases r.int; exact ⟨_, .int _, .base (.int _)⟩
  · cases r.str; exact ⟨_, .str _, .base (.str _)⟩
  · obtain ⟨p, vs, rfl, hp, _⟩ := r.tup ok; exact ⟨_, .tup _, ty_tup hp⟩
  · obtain ⟨p, vs, rfl, hp, _⟩ := r.lst ok; exact ⟨_, .lst _, ty_lst (SqL.of hp)⟩
/-- isinstance(x, T), T a built-in class that is written -/
@[simp] def wIsi (U : Tn) (w : WO) : WE := fun ρ Q => w ρ fun a ρ1 => rs1 ρ1 a fun d => d.tyN = true ∧ Q (.bl (d.isTy U)) ρ1
end
section
variable {Γ : Gx} {X : Cx} {e : Expr} {te : TE} {we : WO} {x : Str} {p pos : Pos} {e2 : Expr} {U : Tn}
theorem ve_isi (hK : X.K = Γ.K) (h : VO Γ X e te we) (h2 : PE X e2 (tC (.ty U.nm))) (hg : Gl X "isinstance") (hm : X.mg "isinstance" = none)
    (he : starEach (e :: [e2]) X.env = (false, eval e X.env) :: starEach [e2] X.env := by rfl) (he2 : starEach [e2] X.env = (false, eval e2 X.env) :: starEach [] X.env := by rfl) (hpl : (backTo pos (starEach [e2] X.env)).any (·.1) = false := by rfl) :
    VE Γ X (.Call (.Name "isinstance" p) [e, e2] [] pos) (tCB (RIs Γ.K) (tCons te (tCons (tC (.ty U.nm)) tNil))) (wIsi U we) :=
  ⟨pe_callB (kcall_isiS hK) hg hm (by decide +kernel) (pa_cons h.pe (pa_cons h2 pa_nil he2) he) (by decide) (by decide) he hpl, ⟨fun {T σ ρ Q Q'} S hw q => h.se.h S hw fun v T1 a ρ1 S1 e1 r1 q1 => by
    obtain ⟨d, r, ht, q1⟩ := S1.rs1 r1 q1
    obtain ⟨N, h1, h2⟩ := ro_ty S1.ok r ht
    exact isi_of h2 (kit_tab h1) (q (.bl _) T1 _ ρ1 S1 e1 (.bl _) q1)⟩⟩
end
end Vl

namespace Vl
open PySem PySem.Spec PyProof.Rows L2 Hl

section
variable {Γ : Gx} {X : Cx} {T : Wo} {σ : L2.St} {ρ : Vn}
variable {e o : Expr} {es : List Expr} {te : TE} {we : WE} {wo : WO} {pos cpos apos : Pos} {i : Nat}
/-! ### methods of one's own list -/
theorem ve_app (hK : X.K = Γ.K) (ho : PE X o (tVar i)) (h : VE Γ X e te we)
    (hbase : attributeBase o "append" X.env (eval o X.env) = eval o X.env := by rfl)
    (hfew : ((backTo cpos (starEach (e :: []) X.env)).all (fun x => !x.1) && (backToKw cpos (keywordEach [] X.env)).all (fun x => x.1.isSome)
      && decide ((e :: ([] : List Expr)).length + ([] : List Keyword).length + (if ([] : List Keyword).isEmpty then 0 else 1) < 30)) = true := by rfl)
    (hline : (apos.endLine == cpos.line) = true := by rfl) (hs : starEach (e :: []) X.env = (false, eval e X.env) :: starEach [] X.env := by rfl) (hplain : (backTo cpos (starEach [] X.env)).any (·.1) = false := by rfl) :
    VE Γ X (.Call (.Attribute o "append" apos) [e] [] cpos) (tBM Γ.K "list" rAppend (tVar i) (tCons te tNil)) (wApp i we) :=
  ⟨by rw [← hK]; exact pe_bm PySem.F.plainAttrs_list PySem.F.slot_list_append PySem.F.type_list_append mt_append ho (pa_cons h.pe pa_nil hs) hbase hfew hline hs hplain, se_app h.se⟩
theorem ve_ext (hK : X.K = Γ.K) (ho : PE X o (tVar i)) (h : VO Γ X e te wo)
    (hbase : attributeBase o "extend" X.env (eval o X.env) = eval o X.env := by rfl)
    (hfew : ((backTo cpos (starEach (e :: []) X.env)).all (fun x => !x.1) && (backToKw cpos (keywordEach [] X.env)).all (fun x => x.1.isSome)
      && decide ((e :: ([] : List Expr)).length + ([] : List Keyword).length + (if ([] : List Keyword).isEmpty then 0 else 1) < 30)) = true := by rfl)
    (hline : (apos.endLine == cpos.line) = true := by rfl) (hs : starEach (e :: []) X.env = (false, eval e X.env) :: starEach [] X.env := by rfl) (hplain : (backTo cpos (starEach [] X.env)).any (·.1) = false := by rfl) :
    VE Γ X (.Call (.Attribute o "extend" apos) [e] [] cpos) (tBM Γ.K "list" rExtend (tVar i) (tCons te tNil)) (wExt i wo) :=
  ⟨by rw [← hK]; exact pe_bm PySem.F.plainAttrs_list PySem.F.slot_list_extend PySem.F.type_list_extend mt_extend ho (pa_cons h.pe pa_nil hs) hbase hfew hline hs hplain, se_ext h.se⟩
theorem ve_popAt (hK : X.K = Γ.K) (ho : PE X o (tVar i)) (h : VE Γ X e te we)
    (hbase : attributeBase o "pop" X.env (eval o X.env) = eval o X.env := by rfl)
    (hfew : ((backTo cpos (starEach (e :: []) X.env)).all (fun x => !x.1) && (backToKw cpos (keywordEach [] X.env)).all (fun x => x.1.isSome)
      && decide ((e :: ([] : List Expr)).length + ([] : List Keyword).length + (if ([] : List Keyword).isEmpty then 0 else 1) < 30)) = true := by rfl)
    (hline : (apos.endLine == cpos.line) = true := by rfl) (hs : starEach (e :: []) X.env = (false, eval e X.env) :: starEach [] X.env := by rfl) (hplain : (backTo cpos (starEach [] X.env)).any (·.1) = false := by rfl) :
    VE Γ X (.Call (.Attribute o "pop" apos) [e] [] cpos) (tBM Γ.K "list" rPopAt (tVar i) (tCons te tNil)) (wPopAt i we) :=
  ⟨by rw [← hK]; exact pe_bm PySem.F.plainAttrs_list PySem.F.slot_list_pop PySem.F.type_list_pop mt_popAt ho (pa_cons h.pe pa_nil hs) hbase hfew hline hs hplain, se_popAt h.se⟩
theorem ve_pop (hK : X.K = Γ.K) (ho : PE X o (tVar i))
    (hbase : attributeBase o "pop" X.env (eval o X.env) = eval o X.env := by rfl) (hline : (apos.endLine == cpos.line) = true := by rfl) :
    VE Γ X (.Call (.Attribute o "pop" apos) [] [] cpos) (tBM0 Γ.K "list" rPop (tVar i)) (wPop i) :=
  ⟨by rw [← hK]; exact pe_bm0 PySem.F.plainAttrs_list PySem.F.slot_list_pop PySem.F.type_list_pop mt_pop ho hbase hline, se_pop⟩
/-- found[i] = e -/
@[simp] def wSetIx (i : Nat) (w : WE) (wi : WE) : WS := fun D ρ => w ρ fun d ρ1 => cOwn (ρ1.getD i .no) fun _ => wi ρ1 fun j ρ2 => match j with
  | .int j => cOwn (ρ2.getD i .no) fun l => oK (ixN l.length j) fun k => D.nx (ρ2.set i (.own (l.set k d)))
  | _ => False
theorem ss_setIx {ti : TE} {wi : WE} (h : SE Γ te we) (hi : SE Γ ti wi) : SS Γ (tAsg te (gSub (tVar i) ti rSetL)) (wSetIx i we wi) := ⟨fun {T σ ρ D D'} S hw a b c d => h.h S hw fun v T1 x ρ1 S1 e1 r1 q1 => by
  obtain ⟨p, vs, l, hi', hs, hp, r, nF, n0, nd, q1⟩ := S1.ownAt q1
  refine ⟨_, hs, hi.h S1 q1 fun u T2 j ρ2 S2 e2 r2 q2 => ?_⟩
  cases j <;> first | exact q2.elim | skip
  cases r2
  obtain ⟨p', vs', l', hi', hs', hp, r, nF, n0, nd, hw⟩ := S2.ownAt q2
  rw [hs] at hs'; cases hs'
  obtain ⟨k, hk, hw⟩ := oK_of hw
  obtain ⟨S3, e3⟩ := S2.putL (l' := l'.set k x) hi' hs nF n0 nd (r.set k (R.ext e2 r1))
  exact ⟨_, _, _, k, rfl, rfl, hp, by rw [r.len]; exact hk, a _ σ _ S3 ((e1.trans e2).trans e3) hw⟩⟩
theorem vs_setIx {ei : Expr} {ti : TE} {wi : WE} {spos : Pos} (ho : PE X o (tVar i)) (h : VE Γ X e te we) (hi : VE Γ X ei ti wi)
    (hs : swapsWithSole [.Subscript o ei pos] e spos.line X.env = pure false := by rfl) (hw : swappedStores [.Subscript o ei pos] e X.env = pure none := by rfl)
    (h1 : (assignEach [.Subscript o ei pos] X.env).map (·.2) = [assign (.Subscript o ei pos) X.env] := by rfl)
    (ha : ∀ v, assign (.Subscript o ei pos) X.env v = (do
      let ov ← holding [v] (eval o X.env)
      let iv ← holding [v, ov] (eval ei X.env)
      standAt pos
      holding [v, ov, iv] (setItem ov iv v)
      release [v, ov, iv] []) := by intro _; rfl) : VS Γ X (.Assign [.Subscript o ei pos] e spos) (tAsg te (gSub (tVar i) ti rSetL)) (wSetIx i we wi) :=
  ⟨ps_asg h.pe (pg_sub ho hi.pe set_list ha) hs hw h1, ss_setIx h.se hi.se⟩
/-! ### slices -/
abbrev WP := Vn → (Option Int → Vn → Prop) → Prop
structure SP' (Γ : Gx) (t : TO) (w : WP) : Prop where
  h : ∀ {T : Wo} {σ : L2.St} {ρ : Vn} {Q : Option Int → Vn → Prop} {Q' : Option Int → Hp → Prop}, Sv Γ T σ ρ → w ρ Q → (∀ v T' ρ', Sv Γ T' σ ρ' → Ext Γ T T' → Q v ρ' → Q' v T'.H) → t σ T.H Q'
structure VP (Γ : Gx) (X : Cx) (e : Option Expr) (t : TO) (w : WP) : Prop where
  pe : PO X e t
  se : SP' Γ t w
@[simp] def wPN : WP := fun ρ Q => Q none ρ
@[simp] def wPS (w : WE) : WP := fun ρ Q => w ρ fun d ρ1 => match d with
  | .int i => Q (some i) ρ1
  | _ => False
theorem vp_none : VP Γ X none tNoPart wPN := ⟨po_none, ⟨fun {T σ ρ Q Q'} S hw q => q none T ρ S .refl hw⟩⟩
theorem vp_some (h : VE Γ X e te we) : VP Γ X (some e) (tPart te) (wPS we) := ⟨po_some h.pe, ⟨fun {T σ ρ Q Q'} S hw q => h.se.h S hw fun v T1 d ρ1 S1 e1 r1 q1 => by
  cases d <;> first | exact q1.elim | skip
  cases r1
  exact ⟨_, rfl, q _ T1 ρ1 S1 e1 q1⟩⟩⟩
def cutD (l : List D) (lo hi : Option Int) : List D := (l.drop (HT.sIx l.length 0 lo)).take (HT.sIx l.length l.length hi - HT.sIx l.length 0 lo)
theorem RA.cut {H0 Hd : Hp} {vs : List V} {l : List D} (h : RA Γ H0 Hd vs l) (lo hi : Option Int) : RA Γ H0 Hd (cutV vs lo hi) (cutD l lo hi) := by
  unfold cutV cutD
  rw [h.len]
  exact (h.drop _).take _
abbrev rSlP (K : PySem.W.Frag) : V → Option Int → Option Int → Hp → VK → Prop := fun x lo hi H Q => rSlL K x lo hi H Q ∨ (fun x lo hi H Q => rSlA K x lo hi H Q ∨ rSlS x lo hi H Q) x lo hi H Q
theorem sl_P {K : PySem.W.Frag} (h : X.K = K) : SlR X (rSlP K) := by subst h; exact SlR.or sl_list (SlR.or sl_tupA sl_str)
@[simp] def wSl3 (w : WO) (wl wh : WP) : WE := fun ρ Q => w ρ fun a ρ1 => wl ρ1 fun lo ρ2 => wh ρ2 fun hi ρ3 => rs1 ρ3 a fun d => match d with
  | .lst l => Q (.lst (cutD l lo hi)) ρ3
  | .tup l => Q (.tup (cutD l lo hi)) ρ3
  | .str z => z.length ≤ sizeLine ∧ Q (.str (cutS z lo hi)) ρ3
  | _ => False
@[simp] def wSlF (w : WO) (wl wh : WP) : WF := fun ρ Q => w ρ fun a ρ1 => wl ρ1 fun lo ρ2 => wh ρ2 fun hi ρ3 => rs1 ρ3 a fun d => match d with
  | .lst l => Q (cutD l lo hi) ρ3
  | _ => False
theorem se_sl {tl th : TO} {wl wh : WP} (h : SO Γ te wo) (hl : SP' Γ tl wl) (hh : SP' Γ th wh) : SE Γ (tSl (rSlP Γ.K) te tl th) (wSl3 wo wl wh) := ⟨fun {T σ ρ Q Q'} S hw q =>
  h.h S hw fun v T1 a ρ1 S1 e1 r1 q1 => hl.h S1 q1 fun lo T2 ρ2 S2 e2 q2 => hh.h S2 q2 fun hi T3 ρ3 S3 e3 q3 => by
    obtain ⟨d, r, q3⟩ := S3.rs1 ((r1.ext e2).ext e3) q3
    have E := (e1.trans e2).trans e3
    cases d <;> first | exact q3.elim | skip
    · cases r.str
      exact .inr (.inr ⟨_, rfl, q3.1, q _ T3 _ ρ3 S3 E (.str _) q3.2⟩)
    · obtain ⟨p, vs, rfl, hp, rp⟩ := r.tup S3.ok
      refine .inr (.inl ⟨p, vs, rfl, hp, fun hz => ?_, fun _ a n => ?_⟩)
      · cases r with
        | sh r =>
          rename_i l
          have z : cutD l lo hi = l := by
            unfold cutD
            rw [← rp.len, hz.1, hz.2, List.drop_zero, Nat.sub_zero, rp.len, List.take_length]
          have q4 : Q (.tup (cutD l lo hi)) ρ3 := q3
          rw [z] at q4
          exact q _ T3 _ ρ3 S3 E r q4
      · have g := Gr.new (o := .tup (cutV vs lo hi)) S3.ok n
        exact q _ _ _ ρ3 (S3.grow g) (E.trans g.ext) (r_tup S3.ok n (rp.cut lo hi)) q3
    · obtain ⟨p, vs, rfl, hp, rp⟩ := r.lst S3.ok
      refine .inl ⟨p, vs, rfl, SqL.of hp, fun a n => ?_⟩
      have g := Gr.new (o := .lst (cutV vs lo hi)) S3.ok n
      exact q _ _ _ ρ3 (S3.grow g) (E.trans g.ext) (r_lst S3.ok n (rp.cut lo hi)) q3⟩
theorem sf_sl {tl th : TO} {wl wh : WP} (h : SO Γ te wo) (hl : SP' Γ tl wl) (hh : SP' Γ th wh) : SF Γ (tSl (rSlP Γ.K) te tl th) (wSlF wo wl wh) := ⟨fun {T σ ρ Q Q'} S hw q =>
  h.h S hw fun v T1 a ρ1 S1 e1 r1 q1 => hl.h S1 q1 fun lo T2 ρ2 S2 e2 q2 => hh.h S2 q2 fun hi T3 ρ3 S3 e3 q3 => by
    obtain ⟨d, r, q3⟩ := S3.rs1 ((r1.ext e2).ext e3) q3
    cases d <;> first | exact q3.elim | skip
    obtain ⟨p, vs, rfl, hp, rp⟩ := r.lst S3.ok
    exact .inl ⟨p, vs, rfl, SqL.of hp, fun a n => sf_new S3 ((e1.trans e2).trans e3) q n (rp.cut lo hi) q3⟩⟩
variable {lo hi : Option Expr} {tl th : TO} {wl wh : WP} {p2 : Pos}
theorem ve_sl (hK : X.K = Γ.K) (h : VO Γ X e te wo) (hl : VP Γ X lo tl wl) (hh : VP Γ X hi th wh) : VE Γ X (.Subscript e (.Slice lo hi none p2) pos) (tSl (rSlP Γ.K) te tl th) (wSl3 wo wl wh) := ⟨pe_slice (sl_P hK) h.pe hl.pe hh.pe, se_sl h.se hl.se hh.se⟩
theorem vf_sl (hK : X.K = Γ.K) (h : VO Γ X e te wo) (hl : VP Γ X lo tl wl) (hh : VP Γ X hi th wh) : VF Γ X (.Subscript e (.Slice lo hi none p2) pos) (tSl (rSlP Γ.K) te tl th) (wSlF wo wl wh) := ⟨pe_slice (sl_P hK) h.pe hl.pe hh.pe, sf_sl h.se hl.se hh.se⟩
/-- xs[::-1] of a list -/
@[simp] def wRevF (w : WO) : WF := fun ρ Q => w ρ fun a ρ1 => rs1 ρ1 a fun d => match d with
  | .lst l => Q l.reverse ρ1
  | _ => False
theorem vf_rev {k : Nat} {p1 p2 p3 : Pos} (hK : X.K = Γ.K) (h : VO Γ X e te wo) : VF Γ X (.Subscript e (.Slice none none (some (.UnaryOp .USub (.Constant (.int 1) k p1) p2)) p3) pos) (tRevL Γ.K te) (wRevF wo) := ⟨by rw [← hK]; exact pe_revL h.pe, ⟨fun {T σ ρ Q Q'} S hw q => h.se.h S hw fun v T1 a ρ1 S1 e1 r1 q1 => by
  obtain ⟨d, r, q1⟩ := S1.rs1 r1 q1
  cases d <;> first | exact q1.elim | skip
  obtain ⟨p, vs, rfl, hp, rp⟩ := r.lst S1.ok
  exact ⟨p, vs, rfl, SqL.of hp, fun a n => sf_new S1 e1 q n rp.reverse q1⟩⟩⟩
/-! ### enumerate, zip -/
def prI (i : Nat) (d : D) : D := .tup [.int (i : Nat), d]
def enD (l : List D) : List D := l.mapIdx prI
def iEnumP (K : PySem.W.Frag) (ta : TA) : TI := fun σ H R => ta σ H fun vs H1 => (∃ a xs, vs = [.ref a] ∧ SqL K H1 a xs ∧ R (Ite K a) H1) ∨ (∃ a xs, vs = [.ref a] ∧ SqT K H1 a xs ∧ R (IteT K a) H1)
theorem pi_enumP {ta : TA} {p tpos : Pos} {elts : List Expr} {kk : Nat} (hg : Gl X "enumerate") (hm : X.mg "enumerate" = none) (ha : PA X [e] ta) (hs : starEach [e] X.env = [(false, eval e X.env)] := by rfl) :
    PI X (.Tuple elts kk tpos) (.Call (.Name "enumerate" p) [e] [] pos) (iEnumP X.K ta) := by
  refine ⟨fun pins s σ H R I h => ?_⟩
  refine Call_ (ld_blt I hg hm boot_enumerate (PyProof.Rows.callWith_type1 (thn (ha.run pos pins s σ H _ I h) fun us s1 ⟨vs, H1, I1, r1, q1⟩ => ?_) hs rfl))
  rcases q1 with ⟨a, xs, ex, hq, q⟩ | ⟨a, xs, ex, hq, q⟩
  · subst ex
    cases r1 with
    | cons r rr =>
      cases rr
      cases r
      obtain ⟨its, rv, p', hz⟩ := I1.list hq
      refine call_enumerate_list p'.isList fun h' he hit hsz hk => wpAny_pyIter_enum he ?_
      have I2 : Inv X pins σ H1 { s1 with heap := h' } := I1.kept (t' := s1.toks) hk
      refine ⟨s1.heap.objs.size + 1, [s1.heap.objs.size + 1, s1.heap.objs.size], _, _, H1, rfl, I2, turn_enum a (s1.heap.objs.size + 1) s1.heap.objs.size, ⟨⟨.none, he⟩, hit, Nat.succ_ne_self _⟩, fun b hb => ?_, q⟩
      have e' : b = s1.heap.objs.size + 1 ∨ b = s1.heap.objs.size := by simpa using hb
      have hle : s1.heap.objs.size ≤ b := by
        rcases e' with z | z
        · rw [z]; exact Nat.le_add_right _ _
        · rw [z]; exact Nat.le_refl _
      exact I1.fpOk hle (I1.hok.fresh hle)
  · subst ex
    cases r1 with
    | cons r rr =>
      cases rr
      cases r
      obtain ⟨its, rv, p', hz⟩ := I1.tuple hq
      have hal : a < s1.heap.objs.size := p'.lt
      refine call_enumerate_tuple (items := its.toArray) p' fun h' he hit hsz hk => wpAny_pyIter_enum he ?_
      have I2 : Inv X pins σ H1 { s1 with heap := h' } := I1.kept (t' := s1.toks) hk
      refine ⟨s1.heap.objs.size + 1, [s1.heap.objs.size + 1, s1.heap.objs.size], _, _, H1, rfl, I2, turn_enumT a (s1.heap.objs.size + 1) s1.heap.objs.size (Nat.ne_of_lt hal) (Ne.symm (Nat.ne_of_lt (Nat.lt_succ_of_lt hal))), ⟨⟨.none, he⟩, hit, Nat.succ_ne_self _⟩, fun b hb => ?_, q⟩
      have e' : b = s1.heap.objs.size + 1 ∨ b = s1.heap.objs.size := by simpa using hb
      have hle : s1.heap.objs.size ≤ b := by
        rcases e' with z | z
        · rw [z]; exact Nat.le_add_right _ _
        · rw [z]; exact Nat.le_refl _
      exact I1.fpOk hle (I1.hok.fresh hle)
theorem its_enum {p : Addr} {vs : List V} {ds : List D} {J : It} (r : RA Γ T.H0 T.Hd vs ds) (hg : ∀ T', Lat Γ T T' → ∀ i x, vs[i]? = some x → J.go i T'.H) (hst : ∀ T', Lat Γ T T' → J.stop vs.length T'.H)
    (hy : ∀ T', Lat Γ T T' → ∀ i x H', J.yld i T'.H x H' → ∃ t y, x = .ref t ∧ T'.H t = none ∧ H' = upd T'.H t (.tup [.int (i : Nat), y]) ∧ vs[i]? = some y) : Its Γ T J (enD ds) := by
  have el : (enD ds).length = ds.length := by simp [enD]
  refine ⟨fun T' l i hi => ?_, fun T' l => by rw [el, ← r.len]; exact hst T' l, fun T' l i d x H' hd hyl => ?_⟩
  · rw [el] at hi
    obtain ⟨x, hx⟩ := lt_at r hi
    exact hg T' l i x hx
  · obtain ⟨t, y, rfl, n, rfl, hx⟩ := hy T' l i x H' hyl
    obtain ⟨d', hd', ry⟩ := (l.ext r).get' hx
    have z : d = prI i d' := by
      unfold enD at hd
      rw [List.getElem?_mapIdx, hd'] at hd
      cases hd; rfl
    subst z
    refine ⟨_, Gr.new (o := .tup [.int (i : Nat), y]) l.ok n, rfl, ?_⟩
    exact r_tup l.ok n (.cons (.int _) (.cons ry .nil))
@[simp] def wEnum (w : WA) : WI := fun ρ Q => w ρ fun as ρ1 => match as with
  | [a] => rsW ρ1 a fun d => itD d fun l => Q (enD l) ρ1
  | _ => False
theorem si_enum {t : TA} {w : WA} (h : SA Γ t w) : SI Γ (iEnumP Γ.K t) (wEnum w) := ⟨fun {T σ ρ Q Q'} S hw q => h.h S hw fun vs T1 as ρ1 S1 e1 r1 q1 => by
  match as, r1, q1 with
  | [a], .cons ra .nil, q1 =>
    obtain ⟨d, rd, q1⟩ := S1.rsW ra q1
    cases d <;> first | exact q1.elim | skip
    · cases rd with
      | sh r =>
        cases r with
        | tup hp ra =>
          refine .inr ⟨_, _, rfl, seqT S1.ok.s0 hp, q _ T1 _ ρ1 S1 e1 (its_enum ra (p := 0) ?_ ?_ ?_) q1⟩
          · exact fun T' l i x hx => ⟨_, x, seqT l.ok.s0 (seqT l.s0 hp), hx⟩
          · exact fun T' l => ⟨_, seqT l.ok.s0 (seqT l.s0 hp), rfl⟩
          · rintro T' l i x H' ⟨t, y, rfl, n, rfl, hh⟩
            exact ⟨t, y, rfl, n, rfl, hh _ (seqT l.ok.s0 (seqT l.s0 hp))⟩
    · have fin : ∀ {p vs l}, (∀ T', Lat Γ T1 T' → SqL Γ.K T'.H p vs) → RA Γ T1.H0 T1.Hd vs l → Q (enD l) ρ1 → iEnumP Γ.K (fun σ H k => k [.ref p] H) σ T1.H Q' := fun {p vs l} hs ra q1 => by
        refine .inl ⟨p, vs, rfl, hs T1 ⟨S1.ok, Same.refl _, Same.refl _, fun _ h => h⟩, q _ T1 _ ρ1 S1 e1 (its_enum ra (p := 0) ?_ ?_ ?_) q1⟩
        · exact fun T' l i x hx => ⟨_, x, hs T' l, hx⟩
        · exact fun T' l => ⟨_, hs T' l, Nat.le_refl _⟩
        · rintro T' l i x H' ⟨t, y, rfl, n, rfl, hh⟩
          exact ⟨t, y, rfl, n, rfl, hh _ (hs T' l)⟩
      cases rd with
      | sh r =>
        cases r with
        | lst hp ra => exact fin (fun T' l => SqL.of (l.ok.s0 _ _ (l.s0 _ _ hp))) ra q1
      | pi hp ra => exact fin (fun T' l => SqL.of (l.ok.sF _ _ (l.f _ _ hp))) ra q1⟩
theorem vi_enum {ta : TA} {wa : WA} {p tpos : Pos} {elts : List Expr} {kk : Nat} (hK : X.K = Γ.K) (hg : Gl X "enumerate") (hm : X.mg "enumerate" = none) (ha : VA Γ X [e] ta wa) (hs : starEach [e] X.env = [(false, eval e X.env)] := by rfl) :
    VI Γ X (.Tuple elts kk tpos) (.Call (.Name "enumerate" p) [e] [] pos) (iEnumP Γ.K ta) (wEnum wa) := ⟨by rw [← hK]; exact pi_enumP hg hm ha.pe hs, si_enum ha.se⟩
end
end Vl

namespace Vl
open PySem PySem.Spec PyProof.Rows L2 Hl

section
variable {Γ : Gx} {X : Cx} {T : Wo} {σ : L2.St} {ρ : Vn}
/-! ### dicts with int and text keys -/
@[simp] def D.keyO : D → Option Key
  | .int i => some (.inl i)
  | .str z => some (.inr z)
  | _ => none
theorem RO.key {v : V} {d : D} {k : Key} (h : RO Γ T v d) (e : d.keyO = some k) : v = kV k := by
  cases d <;> first | cases e | skip
  · cases h.int; rfl
  · cases h.str; rfl
def valD (kvs : List (Key × D)) (k : Key) : Option D := (kvs.find? fun kv => decide (kv.1 = k)).map (·.2)
def putKD (kvs : List (Key × D)) (k : Key) (v : D) : List (Key × D) :=
  if (kvs.any fun kv => decide (kv.1 = k)) = true then kvs.map (fun kv => if kv.1 = k then (kv.1, v) else kv) else kvs ++ [(k, v)]
theorem RK.len {H0 Hd : Hp} : ∀ {vs : List (Key × V)} {l : List (Key × D)}, RK Γ H0 Hd vs l → vs.length = l.length
  | _, _, .nil => rfl
  | _, _, .cons _ t => by rw [List.length_cons, List.length_cons, t.len]
theorem RK.val {H0 Hd : Hp} (k : Key) : ∀ {vs : List (Key × V)} {l : List (Key × D)}, RK Γ H0 Hd vs l → (valV vs k).isSome = (valD l k).isSome ∧ ∀ d, valD l k = some d → ∃ v, valV vs k = some v ∧ R Γ H0 Hd v d
  | _, _, .nil => ⟨rfl, fun _ h => nomatch h⟩
  | _, _, .cons (k := k') (v := v) (d := d) (vs := vs) (l := l) h t => by
    obtain ⟨h1, h2⟩ := t.val k
    by_cases e : k' = k
    · have e1 : valV ((k', v) :: vs) k = some v := valV_pos e
      have e2 : valD ((k', d) :: l) k = some d := by simp [valD, List.find?_cons, e]
      rw [e1, e2]
      exact ⟨rfl, fun d' hd => by cases hd; exact ⟨v, rfl, h⟩⟩
    · have e1 : valV ((k', v) :: vs) k = valV vs k := valV_neg e
      have e2 : valD ((k', d) :: l) k = valD l k := by simp [valD, List.find?_cons, e]
      rw [e1, e2]
      exact ⟨h1, h2⟩
theorem RK.any {H0 Hd : Hp} (k : Key) : ∀ {vs : List (Key × V)} {l : List (Key × D)}, RK Γ H0 Hd vs l → (vs.any fun kv => decide (kv.1 = k)) = (l.any fun kv => decide (kv.1 = k))
  | _, _, .nil => rfl
  | _, _, .cons h t => by rw [List.any_cons, List.any_cons, t.any k]
theorem RK.app {H0 Hd : Hp} : ∀ {vs ws : List (Key × V)} {l m : List (Key × D)}, RK Γ H0 Hd vs l → RK Γ H0 Hd ws m → RK Γ H0 Hd (vs ++ ws) (l ++ m)
  | _, _, _, _, .nil, h => h
  | _, _, _, _, .cons h t, u => .cons h (t.app u)
theorem RK.upd {H0 Hd : Hp} {v : V} {d : D} (k : Key) (hv : R Γ H0 Hd v d) : ∀ {vs : List (Key × V)} {l : List (Key × D)}, RK Γ H0 Hd vs l → RK Γ H0 Hd (vs.map fun kv => if kv.1 = k then (kv.1, v) else kv) (l.map fun kv => if kv.1 = k then (kv.1, d) else kv)
  | _, _, .nil => .nil
  | _, _, .cons (k := k') h t => by
    rw [List.map_cons, List.map_cons]
    by_cases e : k' = k
    · simp only [e, if_true]; exact .cons hv (t.upd k hv)
    · simp only [e, if_false]; exact .cons h (t.upd k hv)
theorem RK.put {H0 Hd : Hp} {v : V} {d : D} (k : Key) (hv : R Γ H0 Hd v d) {vs : List (Key × V)} {l : List (Key × D)} (h : RK Γ H0 Hd vs l) : RK Γ H0 Hd (putK vs k v) (putKD l k d) := by
  unfold putK putKD
  rw [h.any k]
  split
  · exact h.upd k hv
  · exact h.app (.cons hv .nil)
variable {e o : Expr} {es : List Expr} {te ti : TE} {we wi : WE} {wo : WO} {pos cpos apos : Pos} {i : Nat}
theorem Sv.dicAt {k : List (Key × D) → Prop} (S : Sv Γ T σ ρ) (h : cDic (ρ.getD i .no) k) : ∃ p vs l, ρ[i]? = some (.dic l) ∧ σ[i]? = some (some (.ref p)) ∧ T.H p = some (.dK vs) ∧ RK Γ T.H0 T.Hd vs l ∧ T.F p = none ∧ T.H0 p = none ∧ T.Hd p = none ∧ k l := by
  obtain ⟨l, e, h⟩ := cDic_of h
  have e' := getD_of e (by simp)
  obtain ⟨s, e1, p, vs, e2, hp, r, n1, n2, n3⟩ := S.cell i _ e'
  exact ⟨p, vs, l, e', by rw [e1, e2], hp, r, n1, n2, n3, h⟩
theorem Sv.putDK {p : Addr} {vs : List (Key × V)} {l l' : List (Key × D)} (S : Sv Γ T σ ρ) (hi : ρ[i]? = some (.dic l)) (hs : σ[i]? = some (some (.ref p))) (nF : T.F p = none) (n0 : T.H0 p = none) (nd : T.Hd p = none) (r : RK Γ T.H0 T.Hd vs l') :
    Sv Γ ⟨T.F, T.H0, T.Hd, upd T.H p (.dK vs), T.P⟩ σ (ρ.set i (.dic l')) ∧ Ext Γ T ⟨T.F, T.H0, T.Hd, upd T.H p (.dK vs), T.P⟩ :=
  S.put hi rfl hs nF n0 nd (fun T' h1 h2 h3 h4 => ⟨p, vs, rfl, h4, by rw [h2, h3]; exact r, by rw [h1]; exact nF, by rw [h2]; exact n0, by rw [h3]; exact nd⟩) rfl
/-- x = {} -/
@[simp] def wSetD (i : Nat) : WS := fun D ρ => D.nx (ρ.set i (.dic []))
theorem ss_setD : SS Γ (tAsg tDNewK (gName i)) (wSetD i) := ⟨fun {T σ ρ D D'} S hw a b c d => by
  intro p n
  have g := Gr.priv (o := .dK []) S.ok n
  have S1 := S.grow g
  exact a ⟨T.F, T.H0, T.Hd, upd T.H p (.dK []), T.P⟩ _ _ (S1.set (c := .dic []) ⟨p, [], rfl, upd_same, .nil, none_of_le S.ok.sF n, none_of_le S.ok.s0 n, none_of_le S.ok.sd n⟩ fun _ j p' c' e2 e3 pc e4 => by cases e2; exact absurd e4 (fresh_priv S n j c' e3 pc)) g.ext hw⟩
theorem vs_setD {x : Str} {pos' dpos : Pos} (hN : X.N.Nodup) (hi : X.N[i]? = some x) (hx : Loc X.env.scope x) (hs : swapsWith (.Dict [] [] dpos) (some (.Name x pos')) pos.line X.env = pure false := by rfl) (hf : X.fn x = true ∨ X.env.scope.names.lookup x = some .local := by first | exact .inl rfl | exact .inr rfl | assumption) :
    VS Γ X (.Assign [.Name x pos'] (.Dict [] [] dpos) pos) (tAsg tDNewK (gName i)) (wSetD i) := ⟨ps_set hN hi hx pe_dnewK hs hf, ss_setD⟩
/-- x[k] = e -/
@[simp] def wDput (i : Nat) (w wk : WE) : WS := fun D ρ => w ρ fun d ρ1 => cDic (ρ1.getD i .no) fun _ => wk ρ1 fun j ρ2 => oK j.keyO fun k => cDic (ρ2.getD i .no) fun l => l.length < sizeLine ∧ D.nx (ρ2.set i (.dic (putKD l k d)))
theorem ss_dput (h : SE Γ te we) (hk : SE Γ ti wi) : SS Γ (sDPut (tVar i) ti te) (wDput i we wi) := ⟨fun {T σ ρ D D'} S hw a b c d => h.h S hw fun v T1 x ρ1 S1 e1 r1 q1 => by
  obtain ⟨p, vs, l, hi', hs, hp, r, nF, n0, nd, q1⟩ := S1.dicAt q1
  refine ⟨_, hs, hk.h S1 q1 fun u T2 j ρ2 S2 e2 r2 q2 => ?_⟩
  obtain ⟨k, ek, q2⟩ := oK_of q2
  obtain ⟨p', vs', l', hi', hs', hp, r, nF, n0, nd, hz, hw⟩ := S2.dicAt q2
  rw [hs] at hs'; cases hs'
  obtain ⟨S3, e3⟩ := S2.putDK (l' := putKD l' k x) hi' hs nF n0 nd (r.put k (R.ext e2 r1))
  cases (RO.sh r2).key ek
  exact ⟨_, _, rfl, DPut.k hp (by rw [r.len]; exact hz), a _ σ _ S3 ((e1.trans e2).trans e3) hw⟩⟩
theorem vs_dput {ei : Expr} {pos' : Pos} (hu : X.A.units + 1 < cLine) (ho : PE X o (tVar i)) (hi : VE Γ X ei ti wi) (hv : VE Γ X e te we) (hs : swapsWith e (some (.Subscript o ei pos')) pos.line X.env = pure false := by rfl) :
    VS Γ X (.Assign [.Subscript o ei pos'] e pos) (sDPut (tVar i) ti te) (wDput i we wi) := ⟨ps_dput hu ho hi.pe hv.pe hs, ss_dput hv.se hi.se⟩
/-- x[k] -/
@[simp] def wDget (w : WO) (wk : WE) : WE := fun ρ Q => w ρ fun a ρ1 => wk ρ1 fun j ρ2 => oK j.keyO fun k => rs1 ρ2 a fun d => match d with
  | .dct l => oK (valD l k) fun v => Q v ρ2
  | _ => False
theorem ve_dget {ei : Expr} {tk : TE} {wk : WE} (hu : X.A.units + 1 < cLine) (ho : VO Γ X o te wo) (hi : VE Γ X ei tk wk) (hsl : NoSl ei) : VE Γ X (.Subscript o ei pos) (tDGet te tk) (wDget wo wk) := ⟨pe_dget hu ho.pe hi.pe hsl, ⟨fun {T σ ρ Q Q'} S hw q => ho.se.h S hw fun v T1 a ρ1 S1 e1 r1 q1 => hi.se.h S1 q1 fun u T2 j ρ2 S2 e2 r2 q2 => by
  obtain ⟨k, ek, q2⟩ := oK_of q2
  obtain ⟨d, rd, q2⟩ := S2.rs1 (r1.ext e2) q2
  cases d <;> first | exact q2.elim | skip
  obtain ⟨v', ev, q2⟩ := oK_of q2
  obtain ⟨p, vs, rfl, hp, rk⟩ := rd.dct S2.ok
  obtain ⟨z, hz, rz⟩ := (rk.val k).2 _ ev
  cases (RO.sh r2).key ek
  exact ⟨p, z, rfl, .inl ⟨vs, k, .inl hp, rfl, hz.symm⟩, q z T2 v' ρ2 S2 (e1.trans e2) rz q2⟩⟩⟩
/-- in, not in: a list, a tuple, a dict -/
def rDIn (neg : Bool) : R2 := fun y x H Q => ∃ a o, x = .ref a ∧ DGet H a y o ∧ Q (.bl (if neg then !o.isSome else o.isSome)) H
theorem op_din (hu : X.A.units + 1 < cLine) : OpR X (compareOp .In) (rDIn false) := by
  intro pins s σ H y x iv u Q I ry rx h
  obtain ⟨a, ov, ex, g, q2⟩ := h
  subst ex
  obtain rfl : u = Value.ref a := rx
  exact d_in hu I g ry fun s3 I3 => ⟨.bl ov.isSome, H, I3, rfl, q2⟩
theorem op_dnotin (hu : X.A.units + 1 < cLine) : OpR X (compareOp .NotIn) (rDIn true) := by
  intro pins s σ H y x iv u Q I ry rx h
  obtain ⟨a, ov, ex, g, q2⟩ := h
  subst ex
  obtain rfl : u = Value.ref a := rx
  exact d_notIn hu I g ry fun s3 I3 => ⟨.bl (!ov.isSome), H, I3, rfl, q2⟩
abbrev rInP (K : PySem.W.Frag) (neg : Bool) : R2 := fun x y H Q => rIn K neg x y H Q ∨ rDIn neg x y H Q
theorem op_inP {K : PySem.W.Frag} (h : X.K = K) (hu : X.A.units + 1 < cLine) : OpR X (compareOp .In) (rInP K false) := by subst h; exact opr_or op_in_seq (op_din hu)
theorem op_notInP {K : PySem.W.Frag} (h : X.K = K) (hu : X.A.units + 1 < cLine) : OpR X (compareOp .NotIn) (rInP K true) := by subst h; exact opr_or op_notIn_seq (op_dnotin hu)
@[simp] def gInP (neg : Bool) : G2
  | x, .lst l, k => (x.flat = true ∧ l.all D.flat = true) ∧ k (.bl (if neg then !x.mem l else x.mem l))
  | x, .tup l, k => (x.flat = true ∧ l.all D.flat = true) ∧ k (.bl (if neg then !x.mem l else x.mem l))
  | x, .dct l, k => oK x.keyO fun z => k (.bl (if neg then !(valD l z).isSome else (valD l z).isSome))
  | _, _, _ => False
theorem os_inP {neg : Bool} : OS Γ (rInP Γ.K neg) (gInP neg) := ⟨fun {T x y a b Q Q'} ok rx ry h q => by
  cases b <;> first | exact h.elim | skip
  · obtain ⟨p, vs, rfl, hp, rp⟩ := ry.tup ok
    obtain ⟨⟨f1, f2⟩, h⟩ := h
    refine .inl ⟨p, vs, rfl, .inr hp, (rx.fl f1).flat f1, rp.flat f2, ?_⟩
    rw [rp.inV (rx.fl f1) f1 f2]
    exact gr_sc ok q (.bl _) h
  · obtain ⟨p, vs, rfl, hp, rp⟩ := ry.lst ok
    obtain ⟨⟨f1, f2⟩, h⟩ := h
    refine .inl ⟨p, vs, rfl, .inl (SqL.of hp), (rx.fl f1).flat f1, rp.flat f2, ?_⟩
    rw [rp.inV (rx.fl f1) f1 f2]
    exact gr_sc ok q (.bl _) h
  · obtain ⟨k, ek, h⟩ := oK_of h
    obtain ⟨p, vs, rfl, hp, rk⟩ := ry.dct ok
    cases rx.key ek
    refine .inr ⟨p, _, rfl, DGet.k hp, ?_⟩
    rw [(rk.val k).1]
    exact gr_sc ok q (.bl _) h⟩
/-! ### instances -/
@[simp] def putD (f : Str) (v : D) : List (Str × D) → List (Str × D)
  | [] => [(f, v)]
  | (g, x) :: r => if g = f then (g, v) :: r else (g, x) :: putD f v r
theorem RF.put {H0 Hd : Hp} {v : V} {d : D} (f : Str) (hv : R Γ H0 Hd v d) : ∀ {vs : List (Str × V)} {l : List (Str × D)}, RF Γ H0 Hd vs l → RF Γ H0 Hd (putF f v vs) (putD f d l)
  | _, _, .nil => .cons hv .nil
  | _, _, .cons (f := g) h t => by
    unfold putF putD
    split
    · exact .cons hv t
    · exact .cons h (t.put f hv)
theorem RF.len {H0 Hd : Hp} : ∀ {vs : List (Str × V)} {l : List (Str × D)}, RF Γ H0 Hd vs l → vs.length = l.length
  | _, _, .nil => rfl
  | _, _, .cons _ t => by rw [List.length_cons, List.length_cons, t.len]
theorem Sv.objAt {k : Addr → Str → List (Str × D) → Prop} (S : Sv Γ T σ ρ) (h : cObj (ρ.getD i .no) k) : ∃ p c fs C dx vf, ρ[i]? = some (.obj p c fs) ∧ σ[i]? = some (some (.ref p)) ∧ T.H p = some (.ins C dx vf) ∧ Γ.mg c = some (.ref C) ∧ Cls Γ.K C ∧ (∀ f v, vf.lookup f = some v → NoAttr Γ.K C f) ∧ RF Γ T.H0 T.Hd vf fs ∧ T.F p = none ∧ T.H0 p = none ∧ T.Hd p = none ∧ k p c fs := by
  obtain ⟨p, c, l, e, h⟩ := cObj_of h
  have e' := getD_of e (by simp)
  obtain ⟨s, e1, C, dx, vf, e2, hp, m, cl, na, r, n1, n2, n3⟩ := S.cell i _ e'
  exact ⟨p, c, l, C, dx, vf, e', by rw [e1, e2], hp, m, cl, na, r, n1, n2, n3, h⟩
@[simp] def wFldS (i : Nat) (c : Str) (f : Str) (w : WE) : WS := fun D ρ => w ρ fun d ρ1 => cObj (ρ1.getD i .no) fun p c' fs => (c' = c ∧ fs.length < 1000) ∧ D.nx (ρ1.set i (.obj p c (putD f d fs)))
theorem ss_fldS {c f : Str} (na : ∀ C, Γ.mg c = some (.ref C) → NoAttr Γ.K C f) (h : SE Γ te we) : SS Γ (sFld Γ.K (tVar i) te f) (wFldS i c f we) := ⟨fun {T σ ρ D D'} S hw a b c' d => h.h S hw fun v T1 x ρ1 S1 e1 r1 q1 => by
  obtain ⟨p, c2, fs, C, dx, vf, hi', hs, hp, m, cl, nat, r, nF, n0, nd, ⟨rfl, hz⟩, hw⟩ := S1.objAt q1
  obtain ⟨S2, e2⟩ := S1.put (c' := .obj p c2 (putD f x fs)) (o' := .ins C dx (putF f v vf)) hi' rfl hs nF n0 nd (fun T' h1 h2 h3 h4 => ⟨C, dx, _, rfl, h4, m, cl, fun g u e => by
    rw [lookup_putF] at e
    split at e
    · rename_i z; rw [z]; exact na C m
    · exact nat g u e, by rw [h2, h3]; exact r.put f r1, by rw [h1]; exact nF, by rw [h2]; exact n0, by rw [h3]; exact nd⟩) rfl
  exact ⟨_, hs, p, C, dx, vf, rfl, hp, cl, na C m, by rw [r.len]; exact hz, a _ σ _ S2 (e1.trans e2) hw⟩⟩
theorem kps_fld {f : Str} {pos' : Pos} {K : PySem.W.Frag} (hK : X.K = K) (ha : PE X o ti) (hv : PE X e te) (hs : swapsWith e (some (.Attribute o f pos')) pos.line X.env = pure false) : PS X (.Assign [.Attribute o f pos'] e pos) (sFld K ti te f) := by subst hK; exact ps_fld ha hv hs
theorem vs_fldS {c f : Str} {pos' : Pos} (hK : X.K = Γ.K) (na : ∀ C, Γ.mg c = some (.ref C) → NoAttr Γ.K C f) (ho : PE X o (tVar i)) (h : VE Γ X e te we) (hs : swapsWith e (some (.Attribute o f pos')) pos.line X.env = pure false) :
    VS Γ X (.Assign [.Attribute o f pos'] e pos) (sFld Γ.K (tVar i) te f) (wFldS i c f we) := ⟨kps_fld hK ho h.pe hs, ss_fldS na h.se⟩
/-- self.f of one's own instance -/
@[simp] def wFldO (i : Nat) (f : Str) : WE := fun ρ Q => cObj (ρ.getD i .no) fun _ _ fs => oK (fs.lookup f) fun x => Q x ρ
theorem ve_fldO {f : Str} (hK : X.K = Γ.K) (ho : PE X o (tVar i)) (hb : attributeBase o f X.env (eval o X.env) = eval o X.env) : VE Γ X (.Attribute o f pos) (tFld Γ.K (tVar i) f) (wFldO i f) := ⟨kpe_fld hK ho hb, ⟨fun {T σ ρ Q Q'} S hw q => by
  obtain ⟨p, c2, fs, C, dx, vf, hi', hs, hp, m, cl, nat, r, nF, n0, nd, hw⟩ := S.objAt hw
  obtain ⟨x, hx, hw⟩ := oK_of hw
  obtain ⟨v, hv, rv⟩ := r.lookup hx
  exact ⟨_, hs, p, C, dx, vf, v, rfl, hp, cl, nat _ _ hv, hv, q v T x ρ S .refl rv hw⟩⟩⟩
/-- what an __init__ promises: its fields by its meaning W -/
abbrev WN := List D → (List (Str × D) → Prop) → Prop
def spN (Γ : Gx) (c : Str) (W : WN) : Sp := fun vs H Q _ => ∃ T x C dx us ds P, vs = .ref x :: us ∧ T.H = H ∧ T.Ok ∧ H x = some (.ins C dx []) ∧ Γ.mg c = some (.ref C) ∧ Cls Γ.K C ∧ T.F x = none ∧ T.H0 x = none ∧ T.Hd x = none ∧ RA Γ T.H0 T.Hd us ds ∧ W ds P ∧
  ∀ T' dx' vf fs, T'.Ok → Ext Γ T T' → T'.H x = some (.ins C dx' vf) → T'.F x = none → T'.H0 x = none → T'.Hd x = none → (∀ f v, vf.lookup f = some v → NoAttr Γ.K C f) → RF Γ T'.H0 T'.Hd vf fs → P fs → Q .non T'.H
@[simp] def wInit (n m : Nat) (c : Str) (b : WS) : WN := fun ds Q => ds.length = n ∧ ∀ p, b { nx := fun ρ => cObj (ρ.getD 0 .no) fun p' c' fs => p' = p ∧ c' = c ∧ Q fs, rt := fun _ => False } (.obj p c [] :: (ds.map Cell.val ++ List.replicate (m - n - 1) .no))
theorem spN_len {c : Str} {W : WN} {n : Nat} {vs : List V} {H : Hp} {Q : VK} {E : XK} (hW : ∀ {ds P}, W ds P → ds.length = n) (h : spN Γ c W vs H Q E) : vs.length = n + 1 := by
  obtain ⟨T, x, C, dx, us, ds, P, rfl, rfl, ok, hx, m, cl, n1, n2, n3, ra, hw, q⟩ := h
  rw [List.length_cons, ra.len, hW hw]
theorem okN {c : Str} {N : List Str} {body : List Stmt} {t : TS} {b : WS} {vs : List V} {H : Hp} {Q : VK} {E : XK} {n m : Nat} (hN : N.length = m) (hb : VB Γ X body t b) (h : spN Γ c (wInit n m c b) vs H Q E) :
    ∃ t, PSs X body t ∧ t { nx := fun _ H' => Q .non H', rt := Q } (L2.start N vs) H := by
  obtain ⟨T, x, C, dx, us, ds, P, rfl, rfl, ok, hx, mg, cl, n1, n2, n3, ra, ⟨hl, hw⟩, q⟩ := h
  subst hl hN
  refine ⟨t, hb.pe, hb.se.h (D := { nx := fun ρ => cObj (ρ.getD 0 .no) fun p' c' fs => p' = x ∧ c' = c ∧ P fs, rt := fun _ => False }) (ρ := .obj x c [] :: (ds.map Cell.val ++ List.replicate (N.length - ds.length - 1) .no)) ?_ (hw x) (fun T' σ' ρ' S' e' h' => ?_) (fun T' v d ok' e' r' h' => h'.elim) (fun _ _ _ _ _ h => h.elim) (fun _ _ _ _ _ h => h.elim)⟩
  · have hat : ∀ {i : Nat} {c' : Cell}, (Cell.obj x c [] :: (ds.map Cell.val ++ List.replicate (N.length - ds.length - 1) Cell.no))[i]? = some c' → (i = 0 ∧ c' = .obj x c []) ∨ c' = .no ∨ ∃ j d, i = j + 1 ∧ c' = .val d ∧ ds[j]? = some d ∧ j < ds.length := fun {i c'} e => by
      cases i with
      | zero => simp at e; exact .inl ⟨rfl, e.symm⟩
      | succ i =>
        rw [List.getElem?_cons_succ] at e
        by_cases hi : i < ds.length
        · rw [List.getElem?_append_left (by simpa using hi), List.getElem?_map] at e
          cases z : ds[i]? with
          | none => rw [z] at e; cases e
          | some d => rw [z] at e; cases e; exact .inr (.inr ⟨i, d, rfl, rfl, z, hi⟩)
        · rw [List.getElem?_append_right (by simpa using hi), List.getElem?_replicate] at e
          split at e
          · cases e; exact .inr (.inl rfl)
          · cases e
    refine ⟨ok, by simp [L2.start, ra.len]; omega, fun i c' e => ?_, fun i j p c1 c2 e1 e2 p1 p2 _ _ => ?_⟩
    · have hl : i < (L2.start N (V.ref x :: us)).length := by
        obtain ⟨z, _⟩ := List.getElem?_eq_some_iff.mp e
        simp [L2.start, ra.len] at z ⊢
        omega
      rcases hat e with ⟨rfl, rfl⟩ | rfl | ⟨j, d, rfl, rfl, hd, hj⟩
      · exact ⟨some (.ref x), by simp [L2.start], C, dx, [], rfl, hx, mg, cl, (by intro f v e; cases e), .nil, n1, n2, n3⟩
      · exact ⟨_, List.getElem?_eq_getElem hl, trivial⟩
      · obtain ⟨v, hv, r⟩ := ra.get hd
        refine ⟨some v, ?_, v, rfl, r⟩
        unfold L2.start
        rw [List.map_cons, List.cons_append, List.getElem?_cons_succ, List.getElem?_append_left (by simpa [ra.len] using hj), List.getElem?_map, hv]
        rfl
    · rcases hat e1 with ⟨rfl, rfl⟩ | rfl | ⟨j, d, rfl, rfl, _⟩
      · rcases hat e2 with ⟨rfl, rfl⟩ | rfl | ⟨j, d, rfl, rfl, _⟩
        · rfl
        · cases p2
        · cases p2
      · cases p1
      · cases p1
  · obtain ⟨p, c2, fs, C', dx', vf, hi', hs, hp, m', cl', nat, r, nF, n0, nd, rfl, rfl, hP⟩ := S'.objAt h'
    have z : C' = C := by
      rw [mg] at m'
      injection m' with m'
      injection m' with m'
      exact m'.symm
    subst z
    exact q T' dx' vf fs S'.ok e' hp nF n0 nd nat r hP
@[simp] def wMake (c : Str) (W : WN) (dd : List D) (w : WA) : WE := fun ρ Q => w ρ fun as ρ1 => shN as fun ds => W (ds ++ dd) fun fs => Q (.obj c fs) ρ1
variable {CX : CXT} {k : Nat} {f C : Addr} {fd : FuncData} {ps : List Str} {W : WN} {E : XK} {x : Str} {p : Pos} {t : TA} {w : WA} {dv : List V} {ds : List Value} {dd : List D} {c : Str}
theorem se_make (hm : Γ.mg c = some (.ref C)) (hcl : Cls Γ.K C) (hd : ∀ H0 Hd, RA Γ H0 Hd dv dd) (ha : SA Γ t w) : SE Γ (tMake C (spN Γ c W) dv E t) (wMake c W dd w) := ⟨fun {T σ ρ Q Q'} S hw q => ha.h S hw fun vs T1 as ρ1 S1 e1 r1 q1 => by
  obtain ⟨ds, ra, q1⟩ := shN_of r1 q1
  intro x dx nx ndx ne
  have nxF := none_of_le S1.ok.sF nx
  have nx0 := none_of_le S1.ok.s0 nx
  have nxd := none_of_le S1.ok.sd nx
  have up : ∀ {b y}, T1.H b = some y → upd (upd T1.H dx (.own x)) x (.ins C dx []) b = some y := fun {b y} e => by
    rw [upd_ne (ne_of_none e nx), upd_ne (ne_of_none e ndx)]; exact e
  refine ⟨⟨frH T1.H0 T1.Hd T1.H, T1.H0, T1.Hd, upd (upd T1.H dx (.own x)) x (.ins C dx []), fun _ => False⟩, x, C, dx, vs ++ dv, ds ++ dd, _, rfl, rfl, ⟨fun b y e => up (frH_some e).2.2, fun b y e => up (S1.ok.s0 _ _ e), fun b y e => up (S1.ok.sd _ _ e), fun {b y} e => (frH_some e).1, fun {b y} e => (frH_some e).2.1, S1.ok.zd⟩, upd_same, hm, hcl, ?_, nx0, nxd, ra.app (hd _ _), q1, ?_⟩
  · cases z : frH T1.H0 T1.Hd T1.H x with
    | none => exact z
    | some y => have := (frH_some z).2.2; rw [nx] at this; cases this
  intro T' dx' vf fs ok e hx' hF' h0' hd' nat rf hP
  have fF : ∀ {b y}, T1.H b = some y → T1.H0 b = none → T1.Hd b = none → T'.F b = some y := fun {b y} e1 e2 e3 => by
    rw [e.f]
    show frH T1.H0 T1.Hd T1.H b = some y
    rw [frH_yes e2 e3]; exact e1
  have Fo : ∀ {b y}, T1.F b = some y → T'.F b = some y := fun {b y} eF => fF (S1.ok.sF _ _ eF) (S1.ok.F0 eF) (S1.ok.Fd eF)
  have S' : Sv Γ ⟨T1.F, T'.H0, T'.Hd, T'.H, T1.P⟩ σ ρ1 := S1.after ⟨fun b y e => ok.sF _ _ (Fo e), ok.s0, ok.sd, fun {b y} e => ok.F0 (Fo e), fun {b y} e => ok.Fd (Fo e), ok.zd⟩ e.s0 e.da fun p y h1 h2 h3 => ⟨ok.sF _ _ (fF h1 h2 h3), ok.F0 (fF h1 h2 h3), ok.Fd (fF h1 h2 h3)⟩
  obtain ⟨S2, E2⟩ := S'.freezeNew hx' nxF h0' hd' (fresh_priv S1 nx)
  have E1 : Ext Γ T1 ⟨T1.F, T'.H0, T'.Hd, T'.H, T1.P⟩ := ⟨rfl, rfl, e.s0, e.da⟩
  refine ⟨rfl, q (.ref x) ⟨T1.F, upd T'.H0 x (.ins C dx' vf), T'.Hd, T'.H, T1.P⟩ (.obj c fs) ρ1 S2 ((e1.trans E1).trans E2) ?_ hP⟩
  exact .obj upd_same hm hcl nat (rf.mono E2.s0 E2.da)⟩
theorem ve_make (hK : X.K = Γ.K) (hmg : Γ.mg c = some (.ref C)) (hcl : Cls Γ.K C) (M : Mk X.K C f) (F : FnOk X.prog X.w X.K X.mg X.base CX k f fd ps (spN Γ c W)) (hr : Room (k + 1) X.A) (hg : Gl X x) (hm : X.mg x = some (.ref C)) (hb : Binds X.K fd ps ds) (hdv : Vals dv ds) (hd : ∀ H0 Hd, RA Γ H0 Hd dv dd) (hx : Passes CX X E)
    (ha : VA Γ X (e :: es) t w) (hdb : (x == ("__debug__" : Str)) = false := by decide) (he : starEach (e :: es) X.env = (false, eval e X.env) :: starEach es X.env := by rfl) (hpl : (backTo pos (starEach es X.env)).any (·.1) = false := by rfl) :
    VE Γ X (.Call (.Name x p) (e :: es) [] pos) (tMake C (spN Γ c W) dv E t) (wMake c W dd w) := ⟨pe_make M F hr hg hm hb hdv hx ha.pe hdb he hpl, se_make hmg hcl hd ha.se⟩
end
end Vl


namespace Vl
open PySem PySem.Spec PyProof.Rows L2 Hl

/-! ### set(xs) of ints, sorted(set(xs)) -/
def insU (x : Int) : List Int → List Int
  | [] => [x]
  | y :: r => if x < y then x :: y :: r else if x = y then y :: r else y :: insU x r
def sortU : List Int → List Int
  | [] => []
  | x :: r => insU x (sortU r)
theorem insU_mem (x : Int) : ∀ (l : List Int) (z : Int), z ∈ insU x l ↔ z = x ∨ z ∈ l
  | [], z => by simp [insU]
  | y :: r, z => by
    unfold insU
    split
    · simp
    · split
      · rename_i e; subst e; simp
      · rw [List.mem_cons, insU_mem x r z, List.mem_cons]
        constructor
        · rintro (h | h | h)
          · exact .inr (.inl h)
          · exact .inl h
          · exact .inr (.inr h)
        · rintro (h | h | h)
          · exact .inr (.inl h)
          · exact .inl h
          · exact .inr (.inr h)
theorem sortU_mem : ∀ (l : List Int) (z : Int), z ∈ sortU l ↔ z ∈ l
  | [], z => by simp [sortU]
  | x :: r, z => by rw [sortU, insU_mem, sortU_mem r, List.mem_cons]
theorem insU_sorted (x : Int) : ∀ l : List Int, l.Pairwise (· < ·) → (insU x l).Pairwise (· < ·)
  | [], _ => by simp [insU]
  | y :: r, h => by
    unfold insU
    rw [List.pairwise_cons] at h
    split
    · rename_i hxy
      refine List.pairwise_cons.mpr ⟨fun z hz => ?_, List.pairwise_cons.mpr h⟩
      rcases List.mem_cons.mp hz with rfl | hz
      · exact hxy
      · exact Int.lt_trans hxy (h.1 z hz)
    · split
      · exact List.pairwise_cons.mpr h
      · refine List.pairwise_cons.mpr ⟨fun z hz => ?_, insU_sorted x r h.2⟩
        rcases (insU_mem x r z).mp hz with rfl | hz
        · omega
        · exact h.1 z hz
theorem sortU_sorted : ∀ l : List Int, (sortU l).Pairwise (· < ·)
  | [] => .nil
  | x :: r => insU_sorted x _ (sortU_sorted r)
theorem nodup_of_lt {l : List Int} (h : l.Pairwise (· < ·)) : l.Nodup := h.imp fun h => by omega
theorem lt_sorted_eq {l m : List Int} (h1 : l.Pairwise (· < ·)) (h2 : m.Pairwise (· < ·)) (h : ∀ z, z ∈ l ↔ z ∈ m) : l = m := by
  refine perm_sorted_eq ?_ (h1.imp fun h => Int.le_of_lt h) (h2.imp fun h => Int.le_of_lt h)
  exact (List.perm_ext_iff_of_nodup (nodup_of_lt h1) (nodup_of_lt h2)).mpr h
def rSortedSet' (w : World) : List V → Hp → VK → Prop := fun vs H Q => ∃ (a : Addr) (S : Int → Bool) (n : Nat), vs = [V.ref a] ∧ H a = some (SetO w a S n) ∧ (∀ m : List Int, m.Nodup → (∀ k, S k = true ↔ k ∈ m) → m.length < 64) ∧
  ∀ (ns : List Int) (p : Addr), ns.Pairwise (· < ·) → (∀ k : Int, k ∈ ns ↔ S k = true) → H p = none → Q (.ref p) (upd H p (.lst (ns.map V.int)))
theorem cr_sortedSet' {X : Cx} (hc : X.calm = true) : CallR X (.builtin "sorted") (rSortedSet' X.w) := by
  intro pins s σ H vs us Q I r h
  obtain ⟨a, S, n, rfl, ha, h64, q⟩ := h
  obtain ⟨o, es, ep, t, ho, ex, hd, hg, hnd, hm, hb, hf, hn, hr⟩ := setO_get I ha
  refine cr_sortedSet hc pins s σ H _ us Q I r ⟨a, S, n, rfl, ha, ?_, fun ns p h1 h2 _ h4 => q ns p h1 h2 h4⟩
  have := h64 _ hnd hm
  rw [List.length_map, Array.length_toList, hn] at this
  exact this
/-- set(xs), fewer than 4096 ints -/
def rSetI' (K : PySem.W.Frag) (w : World) : List V → Hp → VK → Prop := fun vs H Q => ∃ (a : Addr) (ns : List Int), vs = [V.ref a] ∧ (SqT K H a (ns.map V.int) ∨ SqL K H a (ns.map V.int)) ∧ ns.length + 1 < 4096 ∧
  ∀ (p : Addr) (c : Nat), H p = none → Q (.ref p) (upd H p (SetO w p (fun j => decide (j ∈ ns)) c))
theorem cr_setTI' {X : Cx} (hc : X.calm = true) : CallR X (.type "set") (rSetI' X.K X.w) := by
  intro pins s σ H vs us Q I r h
  obtain ⟨a, ns, rfl, hs, hn, q⟩ := h
  rw [Vals.ref1 r]
  have hf := I.hok.fresh (Nat.le_refl _)
  rcases hs with hs | hs
  · obtain ⟨its, rv, hl, hz⟩ := I.tuple hs
    refine call_set_tupI ns (I.ok.hd hc) (show s.heap.IsTuple a its.toArray from hl) (ints_of_vals rv) (by unfold scanBound; omega) fun h' tk c R hcn k => ?_
    exact ⟨.ref _, upd H s.heap.objs.size (SetO X.w s.heap.objs.size (fun j => decide (j ∈ ns)) c), I.laid (t' := tk) k (Nat.le_refl _) (setO_new R), rfl, q _ c hf⟩
  · obtain ⟨its, rv, hl, hz⟩ := I.list hs
    refine call_set_lstI ns (I.ok.hd hc) hl.isList (ints_of_vals rv) (by unfold scanBound; omega) fun h' tk c R hcn k => ?_
    exact ⟨.ref _, upd H s.heap.objs.size (SetO X.w s.heap.objs.size (fun j => decide (j ∈ ns)) c), I.laid (t' := tk) k (Nat.le_refl _) (setO_new R), rfl, q _ c hf⟩
section
variable {Γ : Gx}
@[simp] def gSet : GN
  | [.lst l], k => oK (intsO l) fun ns => ns.length + 1 < 4096 ∧ k (.set ns)
  | [.tup l], k => oK (intsO l) fun ns => ns.length + 1 < 4096 ∧ k (.set ns)
  | _, _ => False
theorem kcr_set {X : Cx} {K : PySem.W.Frag} {w : World} (h : X.K = K) (h' : X.w = w) (hc : X.calm = true) : CallR X (.type "set") (rSetI' K w) := by subst h h'; exact cr_setTI' hc
theorem cs_set : CS Γ (rSetI' Γ.K Γ.w) gSet := ⟨fun {T xs as Q Q'} ok r h q => by
  unfold gSet at h
  split at h
  · obtain ⟨v, rfl, r'⟩ := r.one
    obtain ⟨ns, e, hn, h'⟩ := oK_of h
    cases intsO_eq e
    obtain ⟨p, vs, rfl, hp, rp⟩ := r'.lst ok
    cases rp.ints
    exact ⟨p, ns, rfl, .inr (SqL.of hp), hn, fun a c n => gr_new ok q n (.set upd_same) h'⟩
  · obtain ⟨v, rfl, r'⟩ := r.one
    obtain ⟨ns, e, hn, h'⟩ := oK_of h
    cases intsO_eq e
    obtain ⟨p, vs, rfl, hp, rp⟩ := r'.tup ok
    cases rp.ints
    exact ⟨p, ns, rfl, .inl hp, hn, fun a c n => gr_new ok q n (.set upd_same) h'⟩
  · exact h.elim⟩
abbrev rSortedP3 (K : PySem.W.Frag) (w : World) : List V → Hp → VK → Prop := fun xs H Q => rSortedP2 K xs H Q ∨ rSortedSet' w xs H Q
theorem cr_sortedP3 {X : Cx} {K : PySem.W.Frag} {w : World} (h : X.K = K) (h' : X.w = w) (hc : X.calm = true) : CallR X (.builtin "sorted") (rSortedP3 K w) := by subst h'; exact cr_or (cr_sortedP2 h) (cr_sortedSet' hc)
@[simp] def fSortedP : FN
  | [.lst l], k => oK (intsO l) fun ns => k ((sortI ns).map D.int)
  | [.tup l], k => oK (intsO l) fun ns => k ((sortI ns).map D.int)
  | [.set ns], k => (sortU ns).length < 64 ∧ k ((sortU ns).map D.int)
  | _, _ => False
theorem csf_sortedP : CSF Γ (rSortedP3 Γ.K Γ.w) fSortedP := ⟨fun {T xs as Q Q'} ok r h q => by
  unfold fSortedP at h
  split at h
  · exact .inl (csf_sorted.h ok r h q)
  · exact .inl (csf_sorted.h ok r h q)
  · rename_i k ns
    obtain ⟨v, rfl, r'⟩ := r.one
    cases r' with
    | sh r' =>
      cases r' with
      | set hs =>
        refine .inr ⟨_, _, _, rfl, ok.s0 _ _ hs, fun m h1 h2 => ?_, fun ms p h1 h2 n => ?_⟩
        · have e : m.Perm (sortU ns) := (List.perm_ext_iff_of_nodup h1 (nodup_of_lt (sortU_sorted ns))).mpr fun z => by rw [← h2 z, sortU_mem, decide_eq_true_eq]
          rw [e.length_eq]; exact h.1
        · rw [lt_sorted_eq h1 (sortU_sorted ns) fun z => by rw [h2 z, sortU_mem, decide_eq_true_eq]]
          exact q p _ _ n (ra_ints _) h.2
  · exact h.elim⟩
end
end Vl

namespace Vl
open PySem PySem.Spec PyProof.Rows L2 Hl

/-! ### a source of draws: [[great cells], stir] -/
def Frm (w q : Addr) (H H' : Hp) : Prop := ∀ a o, a ≠ w → a ≠ q → H a = some o → H' a = some o
def HeapAt (H : Hp) (w q : Addr) : Prop := ∃ (cs : List Int) (st : Int), H w = some (.lst [.ref q, .int st]) ∧ H q = some (.lst (cs.map V.int)) ∧ (∀ c ∈ cs, 0 ≤ c) ∧ cs.length ≤ 63 ∧ 0 ≤ st ∧ st < 2147483647
theorem Frm.refl (w q : Addr) (H : Hp) : Frm w q H H := fun _ _ _ _ h => h
theorem Frm.trans {w q : Addr} {H H' H'' : Hp} (a : Frm w q H H') (b : Frm w q H' H'') : Frm w q H H'' := fun x o h1 h2 h => b x o h1 h2 (a x o h1 h2 h)
theorem Frm.same {w q : Addr} {H H' : Hp} (e : Same H H') : Frm w q H H' := fun x o _ _ h => e x o h
theorem Frm.w {w q : Addr} {H H' : Hp} {o : HO} (e : Frm w q H H') : Frm w q H (upd H' w o) := fun x u h1 h2 h => by rw [upd_ne h1]; exact e x u h1 h2 h
theorem Frm.q {w q : Addr} {H H' : Hp} {o : HO} (e : Frm w q H H') : Frm w q H (upd H' q o) := fun x u h1 h2 h => by rw [upd_ne h2]; exact e x u h1 h2 h
theorem HeapAt.same {H H' : Hp} {w q : Addr} (e : Same H H') (h : HeapAt H w q) : HeapAt H' w q := by
  obtain ⟨cs, st, h1, h2, h3⟩ := h
  exact ⟨cs, st, e _ _ h1, e _ _ h2, h3⟩
def DAh (H : Hp) (w : Addr) : Prop := ∃ q, HeapAt H w q
/-- the surroundings of a law: the text and its draws -/
def gxOf (K : PySem.W.Frag) (w : World) (mg : Str → Option Value) : Gx := ⟨K, w, mg, DAh, fun e ⟨q, h⟩ => ⟨q, h.same e⟩⟩
def sp_draw : Sp := fun vs H Q _ => ∃ (w q : Addr) (many : Int), vs = [.ref w, .int many] ∧ HeapAt H w q ∧ 0 < many ∧ many < 1073741824 ∧ ∀ r H', 0 ≤ r → r < many → Frm w q H H' → HeapAt H' w q → Q (.int r) H'
def sp_heap (K : PySem.W.Frag) : Sp := fun vs H Q _ => ∃ (a : Addr) (ns : List Int), vs = [.ref a] ∧ SqL K H a (ns.map V.int) ∧ ns.length ≤ 63 ∧ ∀ p q H', H p = none → H q = none → Same H H' → HeapAt H' p q → Q (.ref p) H'
/-- a draw's meaning: any number below many -/
def W_draw : WF1 := fun ds Q => ∃ many : Int, ds = [.hnd, .int many] ∧ 0 < many ∧ many < 1073741824 ∧ ∀ r : Int, 0 ≤ r → r < many → Q (.int r)
def W_heap : WF1 := fun ds Q => ∃ ns : List Int, ds = [.scr ns] ∧ ns.length ≤ 63 ∧ Q .hnd
theorem heap_nr {H : Hp} {w q a q' : Addr} (h : HeapAt H w q) (h' : HeapAt H a q') : a ≠ q := by
  rintro rfl
  obtain ⟨cs, st, h1, h2, _⟩ := h
  obtain ⟨cs', st', h3, _⟩ := h'
  rw [h2] at h3
  injection h3 with h3
  injection h3 with h3
  cases cs with
  | nil => cases h3
  | cons c r => rw [List.map_cons] at h3; injection h3 with h3 _; cases h3
theorem draw_imp {K : PySem.W.Frag} {w : World} {mg : Str → Option Value} {vs : List V} {H : Hp} {Q : VK} {E : XK} (h : spV (gxOf K w mg) W_draw vs H Q E) : sp_draw vs H Q E := by
  obtain ⟨T, ds, P, rfl, ok, ra, ⟨many, rfl, m0, m1, hP⟩, q⟩ := h
  match vs, ra with
  | [v, u], .cons r1 (.cons r2 .nil) =>
    cases r2
    cases r1 with
    | hnd h =>
      rename_i a
      obtain ⟨p, hp⟩ := h
      refine ⟨a, p, many, rfl, hp.same ok.sd, m0, m1, fun r H' h0 h1 fr hh => ?_⟩
      have ha : ∃ o, T.Hd a = some o := ⟨_, hp.choose_spec.choose_spec.1⟩
      have hb : ∃ o, T.Hd p = some o := ⟨_, hp.choose_spec.choose_spec.2.1⟩
      have nof : ∀ {A : Hp} {b x}, (∀ {b x}, A b = some x → T.Hd b = none) → A b = some x → b ≠ a ∧ b ≠ p := fun {A b x} hA e => by
        refine ⟨fun z => ?_, fun z => ?_⟩
        · obtain ⟨o, e'⟩ := ha; rw [z] at e; rw [hA e] at e'; cases e'
        · obtain ⟨o, e'⟩ := hb; rw [z] at e; rw [hA e] at e'; cases e'
      have nF := fun {b x} (e : T.F b = some x) => nof (A := T.F) (fun e => ok.Fd e) e
      have n0 := fun {b x} (e : T.H0 b = some x) => nof (A := T.H0) (fun e => ok.zd e) e
      let Hn : Hp := fun b => if b = a ∨ b = p then H' b else T.Hd b
      have ny : ∀ {b}, b = a ∨ b = p → Hn b = H' b := fun h => if_pos h
      have nn : ∀ {b}, ¬ (b = a ∨ b = p) → Hn b = T.Hd b := fun h => if_neg h
      refine q (.int r) ⟨T.F, T.H0, Hn, H', T.P⟩ (.int r) ⟨fun b x e => fr b x (nF e).1 (nF e).2 (ok.sF _ _ e), fun b x e => fr b x (n0 e).1 (n0 e).2 (ok.s0 _ _ e), fun b x e => ?_, ok.F0, fun {b x} e => ?_, fun {b x} e => ?_⟩ ⟨rfl, rfl, Same.refl _, fun c hc => ?_⟩ (.int r) (hP r h0 h1)
      · dsimp only at e
        by_cases hz : b = a ∨ b = p
        · rw [ny hz] at e; exact e
        · rw [nn hz] at e
          rw [not_or] at hz
          exact fr b x hz.1 hz.2 (ok.sd _ _ e)
      · have z := nF e
        show Hn b = none
        rw [nn (by rw [not_or]; exact z)]; exact ok.Fd e
      · have z := n0 e
        show Hn b = none
        rw [nn (by rw [not_or]; exact z)]; exact ok.zd e
      · obtain ⟨q', cs, st, h1, h2, h3⟩ := hc
        by_cases hca : c = a
        · subst hca
          obtain ⟨cs', st', k1, k2, k3⟩ := hh
          exact ⟨p, cs', st', by dsimp only; rw [ny (.inl rfl)]; exact k1, by dsimp only; rw [ny (.inr rfl)]; exact k2, k3⟩
        · have hcp : c ≠ p := heap_nr hp ⟨cs, st, h1, h2, h3⟩
          have e1 : Hn c = T.Hd c := nn (by rw [not_or]; exact ⟨hca, hcp⟩)
          by_cases hq : q' = p
          · subst hq
            obtain ⟨cs', st', k1, k2, k3, k4, k5⟩ := hh
            exact ⟨q', cs', st, by dsimp only; rw [e1]; exact h1, by dsimp only; rw [ny (.inr rfl)]; exact k2, k3, k4, h3.2.2⟩
          · have hqa : q' ≠ a := fun z => heap_nr (a := a) (q' := p) ⟨cs, st, h1, h2, h3⟩ hp z.symm
            exact ⟨q', cs, st, by dsimp only; rw [e1]; exact h1, by dsimp only; rw [nn (by rw [not_or]; exact ⟨hqa, hq⟩)]; exact h2, h3⟩
theorem heap_imp {K : PySem.W.Frag} {w : World} {mg : Str → Option Value} {vs : List V} {H : Hp} {Q : VK} {E : XK} (h : spV (gxOf K w mg) W_heap vs H Q E) : sp_heap K vs H Q E := by
  obtain ⟨T, ds, P, rfl, ok, ra, ⟨ns, rfl, hl, hP⟩, q⟩ := h
  match vs, ra with
  | [v], .cons r1 .nil =>
    cases r1 with
    | scr hs =>
      rename_i a
      refine ⟨a, ns, rfl, ok.s0.seq hs, hl, fun p r H' np nr sm hh => ?_⟩
      let Hn : Hp := fun b => if b = p ∨ b = r then H' b else T.Hd b
      have ny : ∀ {b}, b = p ∨ b = r → Hn b = H' b := fun h => if_pos h
      have nn : ∀ {b}, ¬ (b = p ∨ b = r) → Hn b = T.Hd b := fun h => if_neg h
      have nw : ∀ {b x}, T.H b = some x → ¬ (b = p ∨ b = r) := fun {b x} e z => by
        rcases z with rfl | rfl
        · rw [np] at e; cases e
        · rw [nr] at e; cases e
      refine q (.ref p) ⟨T.F, T.H0, Hn, H', T.P⟩ .hnd ⟨fun b x e => sm _ _ (ok.sF _ _ e), fun b x e => sm _ _ (ok.s0 _ _ e), fun b x e => ?_, ok.F0, fun {b x} e => ?_, fun {b x} e => ?_⟩ ⟨rfl, rfl, Same.refl _, fun c hc => ?_⟩ (.hnd ⟨r, ?_⟩) hP
      · dsimp only at e
        by_cases hz : b = p ∨ b = r
        · rw [ny hz] at e; exact e
        · rw [nn hz] at e; exact sm _ _ (ok.sd _ _ e)
      · show Hn b = none
        rw [nn (nw (ok.sF _ _ e))]; exact ok.Fd e
      · show Hn b = none
        rw [nn (nw (ok.s0 _ _ e))]; exact ok.zd e
      · obtain ⟨q', cs, st, h1, h2, h3⟩ := hc
        exact ⟨q', cs, st, by dsimp only; rw [nn (nw (ok.sd _ _ h1))]; exact h1, by dsimp only; rw [nn (nw (ok.sd _ _ h2))]; exact h2, h3⟩
      · obtain ⟨cs, st, h1, h2, h3⟩ := hh
        exact ⟨cs, st, by dsimp only; rw [ny (.inl rfl)]; exact h1, by dsimp only; rw [ny (.inr rfl)]; exact h2, h3⟩
/-- the law's own promise -/
def sp_law (K : PySem.W.Frag) : Sp := fun vs H Q _ => ∃ (a : Addr) (ns : List Int), vs = [.ref a] ∧ SqL K H a (ns.map V.int) ∧ ns.length ≤ 63 ∧ ∀ H', Q (.bl true) H'
theorem law_imp {K : PySem.W.Frag} {w : World} {mg : Str → Option Value} {W : WF1} (hW : ∀ ns : List Int, ns.length ≤ 63 → W [.scr ns] fun d => d = .bl true) {vs : List V} {H : Hp} {Q : VK} {E : XK} (h : sp_law K vs H Q E) : spV (gxOf K w mg) W vs H Q E := by
  obtain ⟨a, ns, rfl, hs, hl, q⟩ := h
  refine ⟨⟨fun _ => none, H, fun _ => none, H, fun _ => False⟩, [.scr ns], _, rfl, ⟨(by intro b x e; cases e), Same.refl _, (by intro b x e; cases e), (by intro b x e; cases e), (by intro b x e; cases e), fun _ => rfl⟩, .cons (.scr hs) .nil, hW ns hl, ?_⟩
  rintro v T' d ok e r rfl
  cases r
  exact q _
/-! ### def f(a, *others) -/
@[simp] def starW (n : Nat) (W : WF1) : WF1 := fun ds Q => (n ≤ ds.length ∧ ds.length ≤ sizeLine) ∧ W (ds.take n ++ [.tup (ds.drop n)]) Q
theorem star_imp {Γ : Gx} {W : WF1} {n : Nat} {vs : List V} {H : Hp} {Q : VK} {E : XK} (h : spV Γ (starW n W) vs H Q E) : ∃ ws rest, vs = ws ++ rest ∧ ws.length = n ∧ rest.length ≤ sizeLine ∧ ∀ p, H p = Option.none → spV Γ W (ws ++ [V.ref p]) (upd H p (.tup rest)) Q E := by
  obtain ⟨T, ds, P, rfl, ok, ra, ⟨⟨h1, h2⟩, hW⟩, q⟩ := h
  refine ⟨vs.take n, vs.drop n, (List.take_append_drop n vs).symm, by rw [List.length_take, ra.len]; omega, by rw [List.length_drop, ra.len]; omega, fun p np => ?_⟩
  have g := Gr.new (o := .tup (vs.drop n)) ok np
  refine ⟨_, ds.take n ++ [.tup (ds.drop n)], P, rfl, g.ok, ?_, hW, fun v T' d ok' e' r' hP => q v T' d ok' (g.ext.trans e') r' hP⟩
  exact ((ra.take n).ext g.ext (T := T)).app (.cons (r_tup ok np (ra.drop n)) .nil)
section
variable {Γ : Gx} {X : Cx} {CX : CXT} {k : Nat} {f : Addr} {W : WF1} {E : XK} {x : Str} {p pos : Pos} {e : Expr} {es : List Expr} {t : TA} {w : WA}
theorem se_callR (ha : SA Γ t w) : SE Γ (fun σ H Q => t σ H fun vs H1 => spV Γ W vs H1 Q E) (wCall W [] w) := ⟨fun {T σ ρ Q Q'} S hw q => ha.h S hw fun vs T1 as ρ1 S1 e1 r1 q1 => by
  have z := S1.call (dv := []) (E := E) r1 (fun _ _ => .nil) q1 fun v T2 d S2 e2 r2 q2 => q v T2 d ρ1 S2 (e1.trans e2) r2 q2
  rwa [List.append_nil] at z⟩
end
end Vl

namespace Vl
open PySem PySem.Spec PyProof.Rows L2 Hl

section
variable {Γ : Gx} {X : Cx} {T : Wo} {σ : L2.St} {ρ : Vn}
/-! ### the operators by their names -/
abbrev gSub : G2 := gI fun i j => i - j
abbrev gMod : G2 := gIc (fun _ j => 0 < j) fun i j => i % j
abbrev gDiv : G2 := gIc CDivW fun i j => i / j
abbrev gPow : G2 := gIc CPow fun i j => i ^ j.toNat
abbrev gLt : G2 := gB fun i j => decide (i < j)
abbrev gLe : G2 := gB fun i j => decide (i ≤ j)
abbrev gGt : G2 := gB fun i j => decide (j < i)
abbrev gGe : G2 := gB fun i j => decide (j ≤ i)
theorem os_sub : OS Γ (rI0 fun i j => .int (i - j)) gSub := os_I
theorem os_mod : OS Γ (rI (fun _ j => 0 < j) fun i j => .int (i % j)) gMod := os_Ic
theorem os_div : OS Γ (rI CDivW fun i j => .int (i / j)) gDiv := os_Ic
theorem os_pow : OS Γ (rI CPow fun i j => .int (i ^ j.toNat)) gPow := os_Ic
theorem os_lt : OS Γ (rI0 fun i j => .bl (decide (i < j))) gLt := os_B
theorem os_le : OS Γ (rI0 fun i j => .bl (decide (i ≤ j))) gLe := os_B
theorem os_gt : OS Γ (rI0 fun i j => .bl (decide (j < i))) gGt := os_B
theorem os_ge : OS Γ (rI0 fun i j => .bl (decide (j ≤ i))) gGe := os_B
@[simp] def gNotB : G2
  | .bl a, .bl b, k => k (.bl (!decide (a = b)))
  | _, _, _ => False
theorem os_notB : OS Γ rNotB gNotB := ⟨fun {T x y a b Q Q'} ok rx ry h q => by
  cases a <;> cases b <;> first | exact h.elim | skip
  exact ⟨_, _, rx.bl, ry.bl, gr_sc ok q (.bl _) h⟩⟩
/-! ### and, or -/
section
variable {a b e : Expr} {rest : List Expr} {ta tb : TE} {wa wb : WE} {t u : TT} {w z : WT} {op : BoolOp} {pos : Pos}
theorem ve_one (h : VE Γ X a ta wa) : VE Γ X (.BoolOp op [a] pos) ta wa := ⟨pe_one h.pe, h.se⟩
theorem ve_and (ha : VE Γ X a ta wa) (hb : VE Γ X (.BoolOp .And (b :: rest) pos) tb wb) : VE Γ X (.BoolOp .And (a :: b :: rest) pos) (tAndV ta tb) (wAndV wa wb) := ⟨pe_and ha.pe hb.pe, se_andV ha.se hb.se⟩
theorem ve_or (ha : VE Γ X a ta wa) (hb : VE Γ X (.BoolOp .Or (b :: rest) pos) tb wb) : VE Γ X (.BoolOp .Or (a :: b :: rest) pos) (tOrV ta tb) (wOrV wa wb) := ⟨pe_or ha.pe hb.pe, se_orV ha.se hb.se⟩
theorem vw_and1 (h : VT Γ X a t w) : VW Γ X (.BoolOp .And [a] pos) t w := ⟨pw_and1 h.pe, h.se⟩
theorem vw_or1 (h : VT Γ X a t w) : VW Γ X (.BoolOp .Or [a] pos) t w := ⟨pw_or1 h.pe, h.se⟩
theorem vw_and (h : VT Γ X a t w) (h' : VW Γ X (.BoolOp .And (b :: rest) pos) u z) : VW Γ X (.BoolOp .And (a :: b :: rest) pos) (tAnd t u) (wAnd w z) := ⟨pw_and h.pe h'.pe, st_and h.se h'.se⟩
theorem vw_or (h : VT Γ X a t w) (h' : VW Γ X (.BoolOp .Or (b :: rest) pos) u z) : VW Γ X (.BoolOp .Or (a :: b :: rest) pos) (tOr t u) (wOr w z) := ⟨pw_or h.pe h'.pe, st_or h.se h'.se⟩
end
/-! ### statements with names -/
section
variable {e : Expr} {te : TE} {we : WE} {pos tpos : Pos} {i j : Nat} {x y : Str}
theorem vs_aug {f : Int → Int → Int} {op : Operator} (hip : PIp X op (ipI f)) (hN : X.N.Nodup) (hi : X.N[i]? = some x) (hx : Loc X.env.scope x) (h : VE Γ X e te we) (hp : PS X (.AugAssign (.Name x tpos) op e pos) (tAug i te (ipI f))) : VS Γ X (.AugAssign (.Name x tpos) op e pos) (tAug i te (ipI f)) (wAug i f we) := ⟨hp, ss_aug h.se⟩
variable {a b : Expr} {ta : TA} {wa : WA} {px py pt : Pos} {kt k2 : Nat} {pt2 : Pos}
theorem vs_mk {st : Stmt} {t : TS} {w : WS} (h : PS X st t) (h' : SS Γ t w) : VS Γ X st t w := ⟨h, h'⟩
end
/-! ### a def with *others, called plainly -/
section
variable {CX : CXT} {k : Nat} {f : Addr} {W : WF1} {E : XK} {x : Str} {p pos : Pos} {e : Expr} {es : List Expr} {t : TA} {w : WA}
theorem pe_callRp {sp : Sp} (F : FnR X.prog X.w X.K X.mg X.base CX k f sp) (hr : Room k X.A) (hg : Gl X x) (hm : X.mg x = some (.ref f)) (hk : PySem.W.keepIn X.K (.ref f) = true) (hx : Passes CX X E)
    (ha : PA X (e :: es) t) (hdb : (x == ("__debug__" : Str)) = false := by decide) (he : starEach (e :: es) X.env = (false, eval e X.env) :: starEach es X.env := by rfl) (hpl : (backTo pos (starEach es X.env)).any (·.1) = false := by rfl) :
    PE X (.Call (.Name x p) (e :: es) [] pos) (fun σ H Q => t σ H fun vs H1 => sp vs H1 Q E) := by
  refine ⟨fun pins s σ H Q I h => ?_⟩
  refine wpAny_Call_Name_kw (ld_glob I hg hm ?_ hdb)
  refine PySem.W.callWith_K (h₀ := X.base) I.ok.mod.kin hk (thn (ha.run pos pins s σ H _ I h) fun us s1 ⟨vs, H1, I1, r, q⟩ => ⟨I1.kIn, ?_⟩) he hpl
  exact wpAny_call (run_fnR F hr hx I1 r q)
theorem ve_callR (F : FnR X.prog X.w X.K X.mg X.base CX k f (spV Γ W)) (hr : Room k X.A) (hg : Gl X x) (hm : X.mg x = some (.ref f)) (hk : PySem.W.keepIn X.K (.ref f) = true) (hx : Passes CX X E)
    (ha : VA Γ X (e :: es) t w) (hdb : (x == ("__debug__" : Str)) = false := by decide) (he : starEach (e :: es) X.env = (false, eval e X.env) :: starEach es X.env := by rfl) (hpl : (backTo pos (starEach es X.env)).any (·.1) = false := by rfl) :
    VE Γ X (.Call (.Name x p) (e :: es) [] pos) (fun σ H Q => t σ H fun vs H1 => spV Γ W vs H1 Q E) (wCall W [] w) := ⟨pe_callRp F hr hg hm hk hx ha.pe hdb he hpl, se_callR ha.se⟩
end
/-! ### zip -/
def zipD : List D → List D → List D
  | a :: l, b :: m => .tup [a, b] :: zipD l m
  | _, _ => []
theorem zipD_at : ∀ {l m : List D} {i : Nat} {d : D}, (zipD l m)[i]? = some d → ∃ a b, d = .tup [a, b] ∧ l[i]? = some a ∧ m[i]? = some b
  | a :: l, b :: m, 0, d, h => by simp [zipD] at h; exact ⟨a, b, h.symm, rfl, rfl⟩
  | a :: l, b :: m, i + 1, d, h => by simp [zipD] at h; simpa using zipD_at h
  | [], _, _, _, h => by simp [zipD] at h
  | _ :: _, [], _, _, h => by simp [zipD] at h
theorem zipD_length : ∀ {l m : List D}, (zipD l m).length = min l.length m.length
  | a :: l, b :: m => by simp only [zipD, List.length_cons, zipD_length (l := l) (m := m)]; omega
  | [], m => by simp [zipD]
  | _ :: _, [] => by simp [zipD]
theorem kpi_zipA {e e2 : Expr} {ta : TA} {K : PySem.W.Frag} {p pos tpos : Pos} {elts : List Expr} {kk : Nat} (hK : X.K = K) (hg : Gl X "zip") (hm : X.mg "zip" = none) (ha : PA X [e, e2] ta)
    (hs : starEach [e, e2] X.env = (false, eval e X.env) :: starEach [e2] X.env := by rfl) (hs2 : (backTo pos (starEach [e2] X.env)).any (·.1) = false := by rfl) : PI X (.Tuple elts kk tpos) (.Call (.Name "zip" p) [e, e2] [] pos) (RZ.iZipA K ta) := by subst hK; exact RZ.pi_zipA hg hm ha hs hs2
@[simp] def wZip (w : WA) : WI := fun ρ Q => w ρ fun as ρ1 => match as with
  | [a, b] => rsW ρ1 a fun d => rsW ρ1 b fun d' => match d, d' with
    | .lst l, .lst m => Q (zipD l m) ρ1
    | .tup l, .tup m => Q (zipD l m) ρ1
    | _, _ => False
  | _ => False
theorem its_zip {vs us : List V} {ds es : List D} {J : It} (r : RA Γ T.H0 T.Hd vs ds) (r' : RA Γ T.H0 T.Hd us es) (hg : ∀ T', Lat Γ T T' → ∀ i x y, vs[i]? = some x → us[i]? = some y → J.go i T'.H) (hst : ∀ T', Lat Γ T T' → ∀ i, vs.length ≤ i ∨ us.length ≤ i → J.stop i T'.H)
    (hy : ∀ T', Lat Γ T T' → ∀ i x H', J.yld i T'.H x H' → ∃ t y z, x = .ref t ∧ T'.H t = none ∧ H' = upd T'.H t (.tup [y, z]) ∧ vs[i]? = some y ∧ us[i]? = some z) : Its Γ T J (zipD ds es) := by
  refine ⟨fun T' l i hi => ?_, fun T' l => hst T' l _ ?_, fun T' l i d x H' hd hyl => ?_⟩
  · rw [zipD_length] at hi
    obtain ⟨x, hx⟩ := lt_at (i := i) r (by omega)
    obtain ⟨y, hy⟩ := lt_at (i := i) r' (by omega)
    exact hg T' l i x y hx hy
  · rw [zipD_length, r.len, r'.len]; omega
  · obtain ⟨t, y, z, rfl, n, rfl, h1, h2⟩ := hy T' l i x H' hyl
    obtain ⟨a, b, rfl, ha, hb⟩ := zipD_at hd
    obtain ⟨a', ha', ra⟩ := (l.ext r).get' h1
    obtain ⟨b', hb', rb⟩ := (l.ext r').get' h2
    rw [ha] at ha'; cases ha'
    rw [hb] at hb'; cases hb'
    exact ⟨_, Gr.new (o := .tup [y, z]) l.ok n, rfl, r_tup l.ok n (.cons ra (.cons rb .nil))⟩
theorem std_lst {v : V} {l : List D} (h : Std Γ T v (.lst l)) : ∃ p vs, v = .ref p ∧ (∀ T', Lat Γ T T' → SqL Γ.K T'.H p vs) ∧ RA Γ T.H0 T.Hd vs l := by
  cases h with
  | sh r =>
    cases r with
    | lst hp ra => exact ⟨_, _, rfl, fun T' l => SqL.of (l.ok.s0 _ _ (l.s0 _ _ hp)), ra⟩
  | pi hp ra => exact ⟨_, _, rfl, fun T' l => SqL.of (l.ok.sF _ _ (l.f _ _ hp)), ra⟩
theorem std_tup {v : V} {l : List D} (h : Std Γ T v (.tup l)) : ∃ p vs, v = .ref p ∧ (∀ T', Lat Γ T T' → SqT Γ.K T'.H p vs) ∧ RA Γ T.H0 T.Hd vs l := by
  cases h with
  | sh r =>
    cases r with
    | tup hp ra => exact ⟨_, _, rfl, fun T' l => seqT l.ok.s0 (seqT l.s0 hp), ra⟩
theorem Lat.refl (S : T.Ok) : Lat Γ T T := ⟨S, Same.refl _, Same.refl _, fun _ h => h⟩
theorem si_zip {t : TA} {w : WA} (h : SA Γ t w) : SI Γ (RZ.iZipA Γ.K t) (wZip w) := ⟨fun {T σ ρ Q Q'} S hw q => h.h S hw fun vs T1 as ρ1 S1 e1 r1 q1 => by
  match as, r1, q1 with
  | [a, b], .cons ra (.cons rb .nil), q1 =>
    obtain ⟨d, rd, q1⟩ := S1.rsW ra q1
    obtain ⟨d', rd', q1⟩ := S1.rsW rb q1
    cases d <;> cases d' <;> first | exact q1.elim | skip
    · obtain ⟨p, xs, rfl, hp, rp⟩ := std_tup rd
      obtain ⟨p', ys, rfl, hp', rp'⟩ := std_tup rd'
      have l0 := Lat.refl (Γ := Γ) S1.ok
      refine ⟨p, p', xs, ys, rfl, .inr ⟨hp _ l0, hp' _ l0, q _ T1 _ ρ1 S1 e1 (its_zip rp rp' ?_ ?_ ?_) q1⟩⟩
      · exact fun T' l i x y hx hy => ⟨_, _, x, y, hp T' l, hp' T' l, hx, hy⟩
      · exact fun T' l i h => ⟨_, _, hp T' l, hp' T' l, h⟩
      · rintro T' l i x H' ⟨t, y, z, rfl, n, rfl, h1, h2⟩
        exact ⟨t, y, z, rfl, n, rfl, h1 _ (hp T' l), h2 _ (hp' T' l)⟩
    · obtain ⟨p, xs, rfl, hp, rp⟩ := std_lst rd
      obtain ⟨p', ys, rfl, hp', rp'⟩ := std_lst rd'
      have l0 := Lat.refl (Γ := Γ) S1.ok
      refine ⟨p, p', xs, ys, rfl, .inl ⟨hp _ l0, hp' _ l0, q _ T1 _ ρ1 S1 e1 (its_zip rp rp' ?_ ?_ ?_) q1⟩⟩
      · exact fun T' l i x y hx hy => ⟨_, _, x, y, hp T' l, hp' T' l, hx, hy⟩
      · exact fun T' l i h => ⟨_, _, hp T' l, hp' T' l, h⟩
      · rintro T' l i x H' ⟨t, y, z, rfl, n, rfl, h1, h2⟩
        exact ⟨t, y, z, rfl, n, rfl, h1 _ (hp T' l), h2 _ (hp' T' l)⟩⟩
theorem vi_zip {e e2 : Expr} {ta : TA} {wa : WA} {p pos tpos : Pos} {elts : List Expr} {kk : Nat} (hK : X.K = Γ.K) (hg : Gl X "zip") (hm : X.mg "zip" = none) (ha : VA Γ X [e, e2] ta wa)
    (hs : starEach [e, e2] X.env = (false, eval e X.env) :: starEach [e2] X.env := by rfl) (hs2 : (backTo pos (starEach [e2] X.env)).any (·.1) = false := by rfl) : VI Γ X (.Tuple elts kk tpos) (.Call (.Name "zip" p) [e, e2] [] pos) (RZ.iZipA Γ.K ta) (wZip wa) := ⟨kpi_zipA hK hg hm ha.pe hs hs2, si_zip ha.se⟩
end
end Vl

namespace Vl
open PySem PySem.Spec PyProof.Rows L2 Hl

section
variable {Γ : Gx} {X : Cx} {T : Wo} {σ : L2.St} {ρ : Vn}
/-! ### a, b = .. : values, new lists, new dicts -/
inductive QI where
  | qv (d : D)
  | ql (l : List D)
  | qd
/-- an object that nobody else has -/
structure Pv (T : Wo) (σ : L2.St) (ρ : Vn) (p : Addr) : Prop where
  f : T.F p = none
  z : T.H0 p = none
  d : T.Hd p = none
  n : ∀ (j : Nat) (c : Cell), ρ[j]? = some c → c.priv = true → σ[j]? ≠ some (some (.ref p))
def QR (Γ : Gx) (T : Wo) (σ : L2.St) (ρ : Vn) (x : V) : QI → Prop
  | .qv d => R Γ T.H0 T.Hd x d
  | .ql l => ∃ p us, x = .ref p ∧ T.H p = some (.lst us) ∧ RA Γ T.H0 T.Hd us l ∧ Pv T σ ρ p
  | .qd => ∃ p, x = .ref p ∧ T.H p = some (.dK []) ∧ Pv T σ ρ p
def QI.fr : QI → Bool
  | .qv _ => false
  | _ => true
@[simp] def QI.cell : QI → Cell
  | .qv d => .val d
  | .ql l => .own l
  | .qd => .dic []
inductive QRs (Γ : Gx) (T : Wo) (σ : L2.St) (ρ : Vn) : List V → List QI → Prop
  | nil : QRs Γ T σ ρ [] []
  | cons {x : V} {q : QI} {xs : List V} {qs : List QI} : QR Γ T σ ρ x q → QRs Γ T σ ρ xs qs → (q.fr = true → ∀ (i : Nat) (q' : QI), qs[i]? = some q' → q'.fr = true → xs[i]? ≠ some x) → QRs Γ T σ ρ (x :: xs) (q :: qs)
abbrev WQ := Vn → (QI → Vn → Prop) → Prop
abbrev WQs := Vn → (List QI → Vn → Prop) → Prop
structure SQ (Γ : Gx) (t : TE) (w : WQ) : Prop where
  h : ∀ {T : Wo} {σ : L2.St} {ρ : Vn} {Q : QI → Vn → Prop} {Q' : VK}, Sv Γ T σ ρ → w ρ Q → (∀ v T' q ρ', Sv Γ T' σ ρ' → Ext Γ T T' → QR Γ T' σ ρ' v q → Q q ρ' → Q' v T'.H) → t σ T.H Q'
structure SQs (Γ : Gx) (t : TA) (w : WQs) : Prop where
  h : ∀ {T : Wo} {σ : L2.St} {ρ : Vn} {Q : List QI → Vn → Prop} {Q' : List V → Hp → Prop}, Sv Γ T σ ρ → w ρ Q → (∀ vs T' qs ρ', Sv Γ T' σ ρ' → Ext Γ T T' → QRs Γ T' σ ρ' vs qs → Q qs ρ' → Q' vs T'.H) → t σ T.H Q'
structure VQ (Γ : Gx) (X : Cx) (e : Expr) (t : TE) (w : WQ) : Prop where
  pe : PE X e t
  se : SQ Γ t w
structure VQs (Γ : Gx) (X : Cx) (es : List Expr) (t : TA) (w : WQs) : Prop where
  pe : PA X es t
  se : SQs Γ t w
@[simp] def wQv (w : WE) : WQ := fun ρ Q => w ρ fun d ρ1 => Q (.qv d) ρ1
@[simp] def wQf (w : WF) : WQ := fun ρ Q => w ρ fun l ρ1 => Q (.ql l) ρ1
@[simp] def wQd : WQ := fun ρ Q => Q .qd ρ
@[simp] def wQn : WQs := fun ρ Q => Q [] ρ
@[simp] def wQc (w : WQ) (u : WQs) : WQs := fun ρ Q => w ρ fun q ρ1 => u ρ1 fun qs ρ2 => Q (q :: qs) ρ2
variable {e : Expr} {es : List Expr} {te : TE} {ta : TA} {pos : Pos}
theorem vq_v {w : WE} (h : VE Γ X e te w) : VQ Γ X e te (wQv w) := ⟨h.pe, ⟨fun S hw q => h.se.h S hw fun v T' d ρ' S' e' r' z => q v T' (.qv d) ρ' S' e' r' z⟩⟩
theorem vq_f {w : WF} (h : VF Γ X e te w) : VQ Γ X e te (wQf w) := ⟨h.pe, ⟨fun S hw q => h.se.h S hw fun p us T' l ρ' S' e' hp nF n0 nd hn r' z => q (.ref p) T' (.ql l) ρ' S' e' ⟨p, us, rfl, hp, r', nF, n0, nd, hn⟩ z⟩⟩
theorem vq_dic : VQ Γ X (.Dict [] [] pos) tDNewK wQd := ⟨pe_dnewK, ⟨fun {T σ ρ Q Q'} S hw q => by
  intro p n
  have g := Gr.priv (o := .dK []) S.ok n
  exact q (.ref p) ⟨T.F, T.H0, T.Hd, upd T.H p (.dK []), T.P⟩ QI.qd ρ (S.grow g) g.ext ⟨p, rfl, upd_same, none_of_le S.ok.sF n, none_of_le S.ok.s0 n, none_of_le S.ok.sd n, fresh_priv S n⟩ hw⟩⟩
theorem vqs_nil : VQs Γ X [] tNil wQn := ⟨pa_nil, ⟨fun {T σ ρ Q Q'} S h q => q [] T [] ρ S .refl .nil h⟩⟩
theorem sqs_fresh {w : WQs} {T1 : Wo} {ρ1 : Vn} {p : Addr} {o : HO} {Q : List QI → Vn → Prop} {Q' : List V → Hp → Prop} (h' : SQs Γ ta w) (S1 : Sv Γ T1 σ ρ1) (hp : T1.H p = some o) (pv : Pv T1 σ ρ1 p) (hw : w ρ1 Q)
    (q : ∀ vs T2 qs ρ2, Sv Γ T2 σ ρ2 → Ext Γ T1 T2 → QRs Γ T2 σ ρ2 vs qs → T2.H p = some o → Pv T2 σ ρ2 p → (∀ (i : Nat) (q' : QI), qs[i]? = some q' → q'.fr = true → vs[i]? ≠ some (.ref p)) → Q qs ρ2 → Q' vs T2.H) : ta σ T1.H Q' := by
  refine h'.h (T := ⟨upd T1.F p o, T1.H0, T1.Hd, T1.H, fun q => T1.P q ∧ q ≠ p⟩) (S1.reF hp pv.f pv.z pv.d pv.n) hw fun vs T2 qs ρ2 S2 e2 r2 q2 => ?_
  have fD : T2.F p = some o := by rw [e2.f]; exact upd_same
  obtain ⟨S3, hp3, n0, nd⟩ := S2.unreF (o' := o) e2.f e2.p pv.f
  have z : upd T2.H p o = T2.H := by
    funext b
    by_cases hb : b = p
    · subst hb; rw [upd_same, hp3]
    · rw [upd_ne hb]
  rw [z] at S3
  have hn : ∀ (j : Nat) (c : Cell), ρ2[j]? = some c → c.priv = true → σ[j]? ≠ some (some (.ref p)) := fun j c ec pc z => by
    obtain ⟨s, e1, r⟩ := S2.cell j c ec
    rw [z] at e1
    cases e1
    cases c with
    | own l => obtain ⟨q, vs, e3, _, _, m1, _⟩ := r; cases e3; rw [fD] at m1; cases m1
    | obj q c l => obtain ⟨C, dx, vs, e3, _, _, _, _, _, m1, _⟩ := r; cases e3; rw [fD] at m1; cases m1
    | dic l => obtain ⟨q, vs, e3, _, _, m1, _⟩ := r; cases e3; rw [fD] at m1; cases m1
    | pin q l => obtain ⟨vs, e3, e0, _⟩ := r; cases e3; rw [e2.p] at e0; exact e0.2 rfl
    | _ => cases pc
  have sF : ∀ {b}, T2.F b = none → T1.F b = none := fun {b} h => by
    rw [e2.f] at h
    dsimp only at h
    by_cases hb : b = p
    · subst hb; exact pv.f
    · rwa [upd_ne hb] at h
  have r3 : ∀ {vs qs}, QRs Γ T2 σ ρ2 vs qs → QRs Γ ⟨T1.F, T2.H0, T2.Hd, T2.H, T1.P⟩ σ ρ2 vs qs ∧ ∀ (i : Nat) (q' : QI), qs[i]? = some q' → q'.fr = true → vs[i]? ≠ some (.ref p) := by
    intro vs qs r
    induction r with
    | nil => exact ⟨.nil, fun i q' h => by simp at h⟩
    | cons r t d ih =>
      rename_i x q xs qs
      obtain ⟨ih1, ih2⟩ := ih
      have hx : QR Γ ⟨T1.F, T2.H0, T2.Hd, T2.H, T1.P⟩ σ ρ2 x q ∧ (q.fr = true → x ≠ .ref p) := by
        cases q with
        | qv d => exact ⟨r, fun z => nomatch z⟩
        | ql l =>
          obtain ⟨p', us, rfl, h1, h2, h3⟩ := r
          exact ⟨⟨p', us, rfl, h1, h2, sF h3.f, h3.z, h3.d, h3.n⟩, fun _ z => by cases z; rw [h3.f] at fD; cases fD⟩
        | qd =>
          obtain ⟨p', rfl, h1, h3⟩ := r
          exact ⟨⟨p', rfl, h1, sF h3.f, h3.z, h3.d, h3.n⟩, fun _ z => by cases z; rw [h3.f] at fD; cases fD⟩
      refine ⟨.cons hx.1 ih1 d, fun i q' h1 h2 h3 => ?_⟩
      cases i with
      | zero => simp at h1 h3; subst h1; exact hx.2 h2 h3
      | succ i => simp at h1 h3; exact ih2 i q' h1 h2 h3
  obtain ⟨r4, r5⟩ := r3 r2
  exact q vs ⟨T1.F, T2.H0, T2.Hd, T2.H, T1.P⟩ qs ρ2 S3 ⟨rfl, rfl, e2.s0, e2.da⟩ r4 hp3 ⟨pv.f, n0, nd, hn⟩ r5 q2
theorem vqs_cons {w : WQ} {u : WQs} (h : VQ Γ X e te w) (h' : VQs Γ X es ta u) (hs : starEach (e :: es) X.env = (false, eval e X.env) :: starEach es X.env := by rfl) : VQs Γ X (e :: es) (tCons te ta) (wQc w u) := ⟨pa_cons h.pe h'.pe hs, ⟨fun {T σ ρ Q Q'} S hw q =>
  h.se.h S hw fun v T1 qi ρ1 S1 e1 r1 q1 => by
    cases qi with
    | qv d => exact h'.se.h S1 q1 fun vs T2 qs ρ2 S2 e2 r2 q2 => q (v :: vs) T2 _ ρ2 S2 (e1.trans e2) (.cons (q := .qv d) (R.ext e2 r1) r2 fun z => nomatch z) q2
    | ql l =>
      obtain ⟨p, us, rfl, hp, r, pv⟩ := r1
      exact sqs_fresh h'.se S1 hp pv q1 fun vs T2 qs ρ2 S2 e2 r2 hp2 pv2 hd q2 => q (.ref p :: vs) T2 _ ρ2 S2 (e1.trans e2) (.cons (q := .ql l) ⟨p, us, rfl, hp2, RA.ext e2 r, pv2⟩ r2 fun _ => hd) q2
    | qd =>
      obtain ⟨p, rfl, hp, pv⟩ := r1
      exact sqs_fresh h'.se S1 hp pv q1 fun vs T2 qs ρ2 S2 e2 r2 hp2 pv2 hd q2 => q (.ref p :: vs) T2 _ ρ2 S2 (e1.trans e2) (.cons (q := .qd) ⟨p, rfl, hp2, pv2⟩ r2 fun _ => hd) q2⟩⟩
theorem qr_cell {x : V} {q : QI} (r : QR Γ T σ ρ x q) : CellR Γ T (some x) q.cell := by
  cases q with
  | qv d => exact ⟨x, rfl, r⟩
  | ql l => obtain ⟨p, us, rfl, hp, ra, pv⟩ := r; exact ⟨p, us, rfl, hp, ra, pv.f, pv.z, pv.d⟩
  | qd => obtain ⟨p, rfl, hp, pv⟩ := r; exact ⟨p, [], rfl, hp, .nil, pv.f, pv.z, pv.d⟩
theorem qi_priv {q : QI} : q.cell.priv = q.fr := by cases q <;> rfl
/-- a store of such a value -/
theorem Sv.setQ {x : V} {q : QI} {i : Nat} (S : Sv Γ T σ ρ) (r : QR Γ T σ ρ x q) : Sv Γ T (σ.set i (some x)) (ρ.set i q.cell) := by
  refine S.set (qr_cell r) fun pc j p c' e2 e3 pc' e4 => ?_
  subst e2
  rw [qi_priv] at pc
  cases q with
  | qv d => cases pc
  | ql l => obtain ⟨p', us, e, hp, ra, pv⟩ := r; cases e; exact absurd e4 (pv.n j c' e3 pc')
  | qd => obtain ⟨p', e, hp, pv⟩ := r; cases e; exact absurd e4 (pv.n j c' e3 pc')
theorem qr_set {x y : V} {q q' : QI} {i : Nat} (r : QR Γ T σ ρ x q) (hd : q.fr = true → q'.fr = true → y ≠ x) : QR Γ T (σ.set i (some y)) (ρ.set i q'.cell) x q := by
  have key : ∀ p, x = .ref p → q.fr = true → Pv T σ ρ p → Pv T (σ.set i (some y)) (ρ.set i q'.cell) p := fun p ex hf pv => by
    refine ⟨pv.f, pv.z, pv.d, fun j c e pc z => ?_⟩
    rcases set_at e with ⟨rfl, hl, rfl⟩ | ⟨hj, e⟩
    · rw [qi_priv] at pc
      rcases set_at z with ⟨_, _, z⟩ | ⟨hj, _⟩
      · cases z; exact hd hf pc ex.symm
      · exact hj rfl
    · rw [List.getElem?_set_ne hj] at z
      exact pv.n j c e pc z
  cases q with
  | qv d => exact r
  | ql l => obtain ⟨p, us, rfl, hp, ra, pv⟩ := r; exact ⟨p, us, rfl, hp, ra, key p rfl rfl pv⟩
  | qd => obtain ⟨p, rfl, hp, pv⟩ := r; exact ⟨p, rfl, hp, key p rfl rfl pv⟩
@[simp] def wPar2 (i j : Nat) (w : WQs) : WS := fun D ρ => w ρ fun qs ρ1 => match qs with
  | [a, b] => D.nx ((ρ1.set i a.cell).set j b.cell)
  | _ => False
@[simp] def wPar3 (i j l : Nat) (w : WQs) : WS := fun D ρ => w ρ fun qs ρ1 => match qs with
  | [a, b, c] => D.nx (((ρ1.set i a.cell).set j b.cell).set l c.cell)
  | _ => False
theorem ss_par2 {i j : Nat} {wa : WQs} (h : SQs Γ ta wa) : SS Γ (tPar i j ta) (wPar2 i j wa) := ⟨fun {T σ ρ D D'} S hw a b c d => h.h S hw fun vs T1 qs ρ1 S1 e1 r1 q1 => by
  match qs, q1, r1 with
  | [x, y], q1, .cons rx (.cons ry .nil _) hd =>
    refine ⟨_, _, rfl, a T1 _ _ ((S1.setQ rx).setQ (qr_set ry fun h1 h2 => ?_)) e1 q1⟩
    exact fun z => hd h2 0 y rfl h1 (by rw [z]; rfl)⟩
theorem vs_par2 {i j : Nat} {x y : Str} {a b : Expr} {wa : WQs} {px py pt : Pos} {kt k2 pt2} (hc : X.calm = true) (hN : X.N.Nodup) (hi : X.N[i]? = some x) (hj : X.N[j]? = some y) (hij : i ≠ j)
    (hx : X.env.scope.names.lookup x = some .local) (hy : X.env.scope.names.lookup y = some .local) (ha : VQs Γ X [a, b] ta wa)
    (hw : swappedStores [.Tuple [.Name x px, .Name y py] kt pt] (.Tuple [a, b] k2 pt2) X.env = pure (some [x, y]))
    (hs : swapsWithSole [.Tuple [.Name x px, .Name y py] kt pt] (.Tuple [a, b] k2 pt2) pos.line X.env = pure false := by rfl) : VS Γ X (.Assign [.Tuple [.Name x px, .Name y py] kt pt] (.Tuple [a, b] k2 pt2) pos) (tPar i j ta) (wPar2 i j wa) := ⟨ps_par hc hN hi hj hij hx hy ha.pe hw hs, ss_par2 ha.se⟩
theorem ss_par3 {i j l : Nat} {wa : WQs} (h : SQs Γ ta wa) : SS Γ (tPar3 i j l ta) (wPar3 i j l wa) := ⟨fun {T σ ρ D D'} S hw a b c d => h.h S hw fun vs T1 qs ρ1 S1 e1 r1 q1 => by
  match qs, q1, r1 with
  | [x, y, z], q1, .cons rx (.cons ry (.cons rz .nil _) hd2) hd =>
    have ry2 := qr_set (i := i) ry fun h1 h2 e => hd h2 0 y rfl h1 (congrArg some e.symm)
    have rz2 := qr_set (i := i) rz fun h1 h2 e => hd h2 1 z rfl h1 (congrArg some e.symm)
    have rz3 := qr_set (i := j) rz2 fun h1 h2 e => hd2 h2 0 z rfl h1 (congrArg some e.symm)
    exact ⟨_, _, _, rfl, a T1 _ _ (((S1.setQ rx).setQ ry2).setQ rz3) e1 q1⟩⟩
theorem vs_par3 {i j l : Nat} {x y z : Str} {a b c : Expr} {wa : WQs} {px py pz pt : Pos} {kt k2 pt2} (hc : X.calm = true) (hN : X.N.Nodup) (hi : X.N[i]? = some x) (hj : X.N[j]? = some y) (hl : X.N[l]? = some z) (hij : i ≠ j) (hil : i ≠ l) (hjl : j ≠ l)
    (hx : X.env.scope.names.lookup x = some .local) (hy : X.env.scope.names.lookup y = some .local) (hz : X.env.scope.names.lookup z = some .local) (ha : VQs Γ X [a, b, c] ta wa)
    (hw : swappedStores [.Tuple [.Name x px, .Name y py, .Name z pz] kt pt] (.Tuple [a, b, c] k2 pt2) X.env = pure (some [x, y, z]))
    (hs : swapsWithSole [.Tuple [.Name x px, .Name y py, .Name z pz] kt pt] (.Tuple [a, b, c] k2 pt2) pos.line X.env = pure false := by rfl) :
    VS Γ X (.Assign [.Tuple [.Name x px, .Name y py, .Name z pz] kt pt] (.Tuple [a, b, c] k2 pt2) pos) (tPar3 i j l ta) (wPar3 i j l wa) := ⟨ps_par3 hc hN hi hj hl hij hil hjl hx hy hz ha.pe hw hs, ss_par3 ha.se⟩
/-! ### a def with *others -/
structure DfR (P : Program) (w : World) (K : PySem.W.Frag) (mg : Str → Option Value) (base : Heap) (k : Nat) (nm : Str) (sp : Sp) where
  f : Addr
  ok : FnR P w K mg base CX0 k f sp
  m : mg nm = some (.ref f)
  kp : PySem.W.keepIn K (.ref f) = true
/-! ### sum(lists, []) -/
def lstO : D → Option (List D)
  | .lst l => some l
  | _ => none
def sumLO : List D → Option (List D)
  | [] => some []
  | .lst l :: r => (sumLO r).map (l ++ ·)
  | _ :: _ => none
@[simp] def fSumL : FN
  | [.lst l, .lst []], k => oK (sumLO l) fun m => (0 < l.length ∧ m.length ≤ sizeLine) ∧ k m
  | _, _ => False
def rSumL (K : PySem.W.Frag) : List V → Hp → VK → Prop := fun vs H Q => ∃ (a b : Addr) (xs : List V) (lst : Nat → List V), vs = [V.ref a, V.ref b] ∧ SqL K H a xs ∧ H b = some (.lst []) ∧ 0 < xs.length ∧ (∀ i v, xs[i]? = some v → ∃ c, v = .ref c ∧ H c = some (.lst (lst i))) ∧
  ((List.range xs.length).flatMap lst).length ≤ sizeLine ∧ ∀ p, H p = none → Q (.ref p) (upd H p (.lst ((List.range xs.length).flatMap lst)))
end
end Vl

namespace Vl
open PySem PySem.Spec PyProof.Rows L2 Hl

section
variable {Γ : Gx} {X : Cx} {T : Wo} {σ : L2.St} {ρ : Vn}
/-! ### a, b, c, d = .. : through a tuple -/
def gNm : List Nat → TGs
  | [] => gNil
  | i :: r => gCons (gName i) (gNm r)
@[simp] def setQs : List Nat → List QI → Vn → Vn
  | i :: r, q :: qs, ρ => setQs r qs (ρ.set i q.cell)
  | _, _, ρ => ρ
theorem QRs.len : ∀ {xs : List V} {qs : List QI}, QRs Γ T σ ρ xs qs → xs.length = qs.length
  | _, _, .nil => rfl
  | _, _, .cons _ t _ => by rw [List.length_cons, List.length_cons, t.len]
theorem QRs.set {y : V} {q' : QI} {i : Nat} : ∀ {xs : List V} {qs : List QI}, QRs Γ T σ ρ xs qs → (q'.fr = true → ∀ (j : Nat) (q : QI), qs[j]? = some q → q.fr = true → xs[j]? ≠ some y) → QRs Γ T (σ.set i (some y)) (ρ.set i q'.cell) xs qs
  | _, _, .nil, _ => .nil
  | _, _, .cons (x := x) (q := q) h t d, hd => .cons (qr_set h fun h1 h2 e => hd h2 0 q rfl h1 (congrArg some e.symm)) (t.set fun h j q2 h1 h2 => hd h (j + 1) q2 h1 h2) d
theorem gNm_ok {Q' : L2.St → Hp → Prop} : ∀ {is : List Nat} {xs : List V} {qs : List QI} {σ : L2.St} {ρ : Vn}, Sv Γ T σ ρ → QRs Γ T σ ρ xs qs → qs.length = is.length → (∀ σ', Sv Γ T σ' (setQs is qs ρ) → Q' σ' T.H) → gNm is xs σ T.H Q'
  | [], _, _, _, _, S, .nil, _, q => ⟨rfl, q _ S⟩
  | _ :: _, _, _, _, _, S, .nil, h, q => by simp at h
  | [], _, _, _, _, S, .cons _ _ _, h, q => by simp at h
  | i :: r, _, _, _, _, S, .cons (x := x) (q := qi) h t d, hl, q => ⟨x, _, rfl, gNm_ok (S.setQ h) (t.set d) (by simpa using hl) q⟩
theorem QRs.priv {p : Addr} {o : HO} (n : T.H p = none) : ∀ {xs : List V} {qs : List QI}, QRs Γ T σ ρ xs qs → QRs Γ ⟨T.F, T.H0, T.Hd, upd T.H p o, T.P⟩ σ ρ xs qs
  | _, _, .nil => .nil
  | _, _, .cons (q := q) h t d => .cons (by
      cases q with
      | qv d => exact h
      | ql l => obtain ⟨a, us, e, h1, h2, h3⟩ := h; exact ⟨a, us, e, (by dsimp only; rw [upd_ne (ne_of_none h1 n)]; exact h1), h2, h3.f, h3.z, h3.d, h3.n⟩
      | qd => obtain ⟨a, e, h1, h3⟩ := h; exact ⟨a, e, (by dsimp only; rw [upd_ne (ne_of_none h1 n)]; exact h1), h3.f, h3.z, h3.d, h3.n⟩) (t.priv n) d
@[simp] def wParT (is : List Nat) (w : WQs) : WS := fun D ρ => w ρ fun qs ρ1 => (qs.length = is.length ∧ qs.length ≤ sizeLine) ∧ D.nx (setQs is qs ρ1)
theorem ss_parT {ta : TA} {is : List Nat} {wa : WQs} (h : SQs Γ ta wa) : SS Γ (tAsg (tTup ta) (gTup Γ.K is.length (gNm is))) (wParT is wa) := ⟨fun {T σ ρ D D'} S hw a b c d => h.h S hw fun vs T1 qs ρ1 S1 e1 r1 q1 => by
  refine ⟨by rw [r1.len]; exact q1.1.2, fun p n => ?_⟩
  have g := Gr.priv (o := .tup vs) S1.ok n
  refine ⟨p, vs, rfl, SqT.of upd_same, by rw [r1.len]; exact q1.1.1, ?_⟩
  exact gNm_ok (T := ⟨T1.F, T1.H0, T1.Hd, upd T1.H p (.tup vs), T1.P⟩) (S1.grow g) (r1.priv n) q1.1.1 fun σ' S' => a _ σ' _ S' (e1.trans g.ext) q1.2⟩
theorem vs_parT {ta : TA} {is : List Nat} {wa : WQs} {tg : Expr} {es : List Expr} {x1} {tpos pos : Pos} (ha : VQs Γ X es ta wa) (hg : PG X tg (gTup Γ.K is.length (gNm is)))
    (hs : swapsWithSole [tg] (.Tuple es x1 tpos) pos.line X.env = pure false := by rfl) (hw : swappedStores [tg] (.Tuple es x1 tpos) X.env = pure none := by rfl) (h1 : (assignEach [tg] X.env).map (·.2) = [assign tg X.env] := by rfl) :
    VS Γ X (.Assign [tg] (.Tuple es x1 tpos) pos) (tAsg (tTup ta) (gTup Γ.K is.length (gNm is))) (wParT is wa) := ⟨ps_asg (pe_tup ha.pe) hg hs hw h1, ss_parT ha.se⟩
end
end Vl

namespace Vl
open PySem PySem.Spec PyProof.Rows L2 Hl
theorem vals_app : ∀ {xs ys : List V} {us ws : List Value}, Vals xs us → Vals ys ws → Vals (xs ++ ys) (us ++ ws)
  | _, _, _, _, .nil, h => h
  | _, _, _, _, .cons r t, h => .cons r (vals_app t h)
theorem kcr_sumL {X : Cx} {K : PySem.W.Frag} (h : X.K = K) (hc : X.calm = true) : CallR X (.builtin "sum") (rSumL K) := by
  subst h
  intro pins s σ H vs us Q I r h
  obtain ⟨a, b, xs, lst, rfl, ha, hb, hpos, hl, hz, q⟩ := h
  obtain ⟨u, v, rfl, ru, rv⟩ := r.two
  cases ru
  cases rv
  obtain ⟨its, rI, pl, _⟩ := I.list ha
  obtain ⟨z2, its2, n2, r2, hl2, e2⟩ := I.lstM hb
  cases r2
  have key : ∀ i v, its[i]? = some v → ∃ (c : Addr) (n : Nat) (ws : List Value), v = .ref c ∧ IsL s.heap c ws.toArray n ∧ Vals (lst i) ws := fun i v hv => by
    have hi : i < xs.length := by
      obtain ⟨z, _⟩ := List.getElem?_eq_some_iff.mp hv
      rw [rI.length]; exact z
    obtain ⟨c, e1, e2⟩ := hl i xs[i] (List.getElem?_eq_getElem hi)
    obtain ⟨u, hu, ru⟩ := rI.get (List.getElem?_eq_getElem hi)
    rw [hv] at hu; cases hu
    rw [e1] at ru; cases ru
    obtain ⟨z3, its3, n3, r3, hl3, e3⟩ := I.lstM e2
    exact ⟨c, n3, its3, rfl, e3, r3⟩
  have k2 : ∀ i : Nat, ∃ ws : List Value, ∀ v, its[i]? = some v → ∃ (c : Addr) (n : Nat), v = .ref c ∧ IsL s.heap c ws.toArray n ∧ Vals (lst i) ws := fun i => by
    cases e : its[i]? with
    | none => exact ⟨[], fun v h => nomatch h⟩
    | some w =>
      obtain ⟨c, n, ws, h1, h2, h3⟩ := key i w e
      exact ⟨ws, fun v h => by cases h; exact ⟨c, n, h1, h2, h3⟩⟩
  obtain ⟨lv, hlv⟩ := Classical.axiomOfChoice k2
  have hpre : ∀ n, n ≤ its.length → Vals ((List.range n).flatMap lst) (preL lv n) := fun n => by
    induction n with
    | zero => intro _; exact .nil
    | succ n ih =>
      intro hn
      rw [List.range_succ, List.flatMap_append]
      obtain ⟨c, m, _, _, hv⟩ := hlv n its[n] (List.getElem?_eq_getElem (by omega))
      show Vals _ (preL lv n ++ lv n)
      refine vals_app (ih (by omega)) ?_
      simpa using hv
  have hlen := rI.length
  have hv := hpre its.length (Nat.le_refl _)
  rw [← hlen] at hv
  refine call_sum_lists (I.ok.hd hc) pl.isList e2 lv ?_ (fun i v hv => ?_) fun h' acc na tk hk hI hn => ?_
  · rw [List.size_toArray, ← hlen, ← hv.length]; exact hz
  · have hv' : its[i]? = some v := by simpa using hv
    obtain ⟨c, n, e, h, _⟩ := hlv i v hv'
    exact ⟨c, n, e, h⟩
  · rw [List.size_toArray, ← hlen] at hI hn
    have hge : s.heap.objs.size ≤ acc := Nat.le_of_lt (hn hpos)
    exact ⟨.ref acc, upd H acc (.lst _), I.laid (t' := tk) hk hge ⟨hz, _, na, hv, hI⟩, rfl, q acc (I.hok.fresh hge)⟩
section
variable {Γ : Gx}
theorem sumLO_ok {T : Wo} (ok : T.Ok) : ∀ {l m : List D} {vs : List V}, RA Γ T.H0 T.Hd vs l → sumLO l = some m → ∃ lst : Nat → List V, (∀ (i : Nat) v, vs[i]? = some v → ∃ c, v = .ref c ∧ T.H c = some (.lst (lst i))) ∧ RA Γ T.H0 T.Hd ((List.range vs.length).flatMap lst) m
  | [], m, _, .nil, h => by cases h; exact ⟨fun _ => [], fun i v h => by simp at h, .nil⟩
  | d :: l, m, v :: vs, .cons r t, h => by
    cases d <;> first | cases h | skip
    rename_i x
    unfold sumLO at h
    cases e : sumLO l with
    | none => rw [e] at h; cases h
    | some m' =>
      rw [e] at h
      cases h
      obtain ⟨lst, h1, h2⟩ := sumLO_ok ok t e
      cases r with
      | lst hp ra =>
        rename_i a us
        refine ⟨fun i => match i with | 0 => us | i + 1 => lst i, fun i v hv => ?_, ?_⟩
        · cases i with
          | zero => simp at hv; subst hv; exact ⟨a, rfl, ok.s0 _ _ hp⟩
          | succ i => simp at hv; exact h1 i v hv
        · rw [List.length_cons, List.range_succ_eq_map, List.flatMap_cons, List.flatMap_map]
          exact ra.app h2
theorem csf_sumL : CSF Γ (rSumL Γ.K) fSumL := ⟨fun {T xs as Q Q'} ok r h q => by
  unfold fSumL at h
  split at h
  · obtain ⟨v, u, rfl, r1, r2⟩ := r.two
    obtain ⟨m, e, ⟨h1, h2⟩, h3⟩ := oK_of h
    obtain ⟨a, vs, rfl, ha, ra⟩ := r1.lst ok
    obtain ⟨b, us, rfl, hb, rb⟩ := r2.lst ok
    cases rb
    obtain ⟨lst, h4, h5⟩ := sumLO_ok ok ra e
    exact ⟨a, b, vs, lst, rfl, SqL.of ha, hb, by rw [ra.len]; exact h1, h4, by rw [h5.len]; exact h2, fun p n => q p _ _ n h5 h3⟩
  · exact h.elim⟩
end
end Vl

namespace Vl
open PySem PySem.Spec PyProof.Rows L2 Hl
/-! ### data by shapes -/
abbrev tI (ns : List Int) : D := .tup (ns.map D.int)
abbrev lI (ns : List Int) : D := .lst (ns.map D.int)
@[simp] theorem eqv_int {i j : Int} : D.eqv (.int i) (.int j) = decide (i = j) := by
  show (i == j) = _
  by_cases h : i = j <;> simp [h]
@[simp] theorem flat_ints (ns : List Int) : (ns.map D.int).all D.flat = true := by
  induction ns with
  | nil => rfl
  | cons n ns ih => simpa using ih
@[simp] theorem mem_ints' (i : Int) (ns : List Int) : D.mem (.int i) (ns.map D.int) = decide (i ∈ ns) := by
  unfold D.mem
  induction ns with
  | nil => rfl
  | cons n ns ih =>
    rw [List.map_cons, List.any_cons, ih, eqv_int]
    by_cases h : n = i
    · subst h; simp
    · have h' : ¬ i = n := fun e => h e.symm
      simp [h, h']
@[simp] theorem intsO_ints (ns : List Int) : intsO (ns.map D.int) = some ns := intsO_map ns
@[simp] theorem blsO_bls (ns : List Bool) : blsO (ns.map D.bl) = some ns := blsO_map ns
@[simp] theorem draw_iff {m : Int} {Q : D → Prop} : W_draw [.hnd, .int m] Q ↔ 0 < m ∧ m < 1073741824 ∧ ∀ r : Int, 0 ≤ r → r < m → Q (.int r) := by
  constructor
  · rintro ⟨m', e, h⟩; cases e; exact h
  · intro h; exact ⟨m, rfl, h⟩
@[simp] theorem heap_iff {ns : List Int} {Q : D → Prop} : W_heap [.scr ns] Q ↔ ns.length ≤ 63 ∧ Q .hnd := by
  constructor
  · rintro ⟨m', e, h⟩; cases e; exact h
  · intro h; exact ⟨ns, rfl, h⟩
theorem atI_nat' {α : Type} {xs : List α} {i : Int} {x : α} (h0 : 0 ≤ i) (h : xs[i.toNat]? = some x) : atI xs i = some x := by
  have e : ((i.toNat : Nat) : Int) = i := Int.toNat_of_nonneg h0
  rw [← e]
  exact atI_nat h
/-- a comprehension over data of one shape, its test and its item plain -/
theorem lc_of {α : Type} (enc : α → D) {g : WG} {c : WT} {w : WE} {vs : List Nat} {ρ : Vn} {Q : List D → Vn → Prop} (p : α → Bool) (out : α → D) (ρ1 : α → Vn) : ∀ (l : List α) (acc : List D),
    (∀ a ∈ l, ∀ (A : D → Vn → Prop) (B : Vn → Prop), (p a = true → A (out a) (ρ1 a)) → (p a = false → B (ρ1 a)) → g (enc a) ρ fun ρ1 => c ρ1 fun b ρ2 => (b = true → w ρ2 A) ∧ (b = false → B ρ2)) →
    (∀ a, wipeV (ρ1 a) vs = ρ) → acc.length + l.length ≤ sizeLine → Q (acc ++ (l.filter p).map out) ρ → lcV g c w vs (l.map enc) acc ρ Q
  | [], acc, _, _, _, h => by simpa using h
  | a :: l, acc, hs, hw, hz, h => by
    rw [List.map_cons]
    refine hs a (List.mem_cons_self ..) _ _ (fun hp => ?_) (fun hp => ?_)
    · refine ⟨by rw [List.length_cons] at hz; omega, ?_⟩
      rw [hw]
      refine lc_of enc p out ρ1 l _ (fun b hb => hs b (List.mem_cons_of_mem _ hb)) hw (by rw [List.length_append, List.length_singleton]; rw [List.length_cons] at hz; omega) ?_
      rw [List.filter_cons_of_pos hp, List.map_cons] at h
      simpa using h
    · rw [hw]
      refine lc_of enc p out ρ1 l _ (fun b hb => hs b (List.mem_cons_of_mem _ hb)) hw (by rw [List.length_cons] at hz; omega) ?_
      rwa [List.filter_cons_of_neg (by rw [hp]; exact Bool.false_ne_true)] at h
theorem lc_ofD {g : WG} {c : WT} {w : WE} {vs : List Nat} {ρ : Vn} {Q : List D → Vn → Prop} (p : D → Bool) (out : D → D) (ρ1 : D → Vn) (l : List D) (acc : List D)
    (hs : ∀ a ∈ l, ∀ (A : D → Vn → Prop) (B : Vn → Prop), (p a = true → A (out a) (ρ1 a)) → (p a = false → B (ρ1 a)) → g a ρ fun ρ1 => c ρ1 fun b ρ2 => (b = true → w ρ2 A) ∧ (b = false → B ρ2))
    (hw : ∀ a, wipeV (ρ1 a) vs = ρ) (hz : acc.length + l.length ≤ sizeLine) (h : Q (acc ++ (l.filter p).map out) ρ) : lcV g c w vs l acc ρ Q := by
  have z := lc_of (fun d : D => d) (g := g) (c := c) (w := w) (Q := Q) p out ρ1 l acc hs hw hz h
  rwa [List.map_id'] at z
/-- a class's name stands for one class -/
theorem noat {K : PySem.W.Frag} {mg : Str → Option Value} {c f : Str} {C0 : Addr} (hm : mg c = some (.ref C0)) (hn : NoAttr K C0 f) : ∀ C, mg c = some (.ref C) → NoAttr K C f := fun C h => by
  have e := hm.symm.trans h
  injection e with e
  injection e with e
  rw [← e]; exact hn
section
variable {Γ : Gx} {X : Cx} {T : Wo} {σ : L2.St} {ρ : Vn}
variable {elt tg iter : Expr} {ifs : List Expr} {scope : Scope} {own : List (Str × Nat)} {pos : Pos} {ti : TI} {g : TG} {tt : TT} {te : TE} {ts : List Nat} {wi : WI} {wg : WG} {wc : WT} {we : WE}
/-- a name that takes a comprehension's list, to share -/
theorem vs_setLcV {i : Nat} {y : Str} {py : Pos} {spos : Pos} (hc : X.calm = true) (hN : X.N.Nodup) (hy : X.N[i]? = some y) (hyl : X.env.scope.names.lookup y = some .local)
    (hsw : swapsWith (.ListComp elt [⟨tg, iter, ifs, 0⟩] scope pos) (some (.Name y py)) spos.line X.env = pure true) (hi : VI Γ X tg iter ti wi) (ok : BlkOk X.N X.env.scope scope own)
    (hg : ∀ (s : Shared) (H : Hp) (C : Addr) (cl : List (Str × Addr)) (fp : List Addr), VG Γ (X.blk s H scope (compEnvC scope cl C X.env) fp) tg g ts wg) (ht : ∀ (s : Shared) (H : Hp) (C : Addr) (cl : List (Str × Addr)) (fp : List Addr), VTs Γ (X.blk s H scope (compEnvC scope cl C X.env) fp) ifs tt wc)
    (he : ∀ (s : Shared) (H : Hp) (C : Addr) (cl : List (Str × Addr)) (fp : List Addr), VE Γ (X.blk s H scope (compEnvC scope cl C X.env) fp) elt te we) (hs : ∀ x, foldedSetIterable iter X.env x = pure x := by intro _; rfl) (hts : ∀ j ∈ ts, j ∈ own.map (·.2) := by decide) :
    VS Γ X (.Assign [.Name y py] (.ListComp elt [⟨tg, iter, ifs, 0⟩] scope pos) spos) (tAsg (tLc ti g tt te (own.map (·.2))) (gName i)) (wSet (wFz (wLc wi wg wc we (own.map (·.2)))) (gV i)) :=
  ⟨ps_setLc hc hN hy hyl hsw hi.pe ok (fun s H C cl fp => (hg s H C cl fp).pe) (fun s H C cl fp => (ht s H C cl fp).pe) (fun s H C cl fp => (he s H C cl fp).pe) hs, ss_set (se_fz (sf_lc hi.se (hg ({} : Shared) (fun _ => none) 0 [] []).se (ht ({} : Shared) (fun _ => none) 0 [] []).se (he ({} : Shared) (fun _ => none) 0 [] []).se hts)) sg_name⟩
end
end Vl

namespace K27
open PySem PySem.Spec PyProof.Rows L2 Hl Vl
def W_is_integer : WF1 := wDef 1 1
  (wRet (wAndV (wIsi .int (wSl 0)) (wUn gNot (wIsi .bool (wSl 0)))))
def W_is_number : WF1 := wDef 2 2
  (wRet (wAndV (wCall W_is_integer [] (wCons (wSl 0) wNil)) (wAndV (wOp gGe (wSl 0) (wOf (wC (.int 0)))) (wOrV (wOp gIsN (wSl 1) (wOf (wC .non))) (wOp gLe (wSl 0) (wSl 1))))))
def W_comers : WF1 := wDef 2 3
  (wRet (wCB gTuple (wCons (wOf (wFz (wLc (wIt (wOf (wOp gIx (wSl 0) (wSl 1)))) (gV 2) (wTst (wOp (gInP true) (wSl 2) (wOf (wOp gIx (wSl 0) (wOf (wOp gSub (wSl 1) (wOf (wC (.int 1))))))))) (wVar 2) [2]))) wNil)))
def W_in_both : WF1 := wDef 2 3
  (wRet (wCB gTuple (wCons (wOf (wFz (wLc (wIt (wSl 0)) (gV 2) (wTst (wOp (gInP false) (wSl 2) (wSl 1))) (wVar 2) [2]))) wNil)))
def W_lot_without : WF1 := wDef 2 4
  (wRet (wCB gTuple (wCons (wOf (wFz (wLc (wIt (wSl 0)) (gV 2) (wNot (wTru (wOf (wCB gAny (wCons (wOf (wFz (wLc (wIt (wSl 1)) (gV 3) wYes (wOp (gInP false) (wSl 2) (wSl 3)) [3]))) wNil))))) (wVar 2) [2]))) wNil)))
def W_line_from_L1 : WS :=
  (wDput 8 (wC (.bl true)) (wVar 14))
def W_line_from_L2 : WS :=
  (wSeq (wSet (wCall W_in_both [] (wCons (wSl 7) (wCons (wOf (wOp gIx (wSl 0) (wOf (wOp gAdd (wSl 11) (wOf (wC (.int 1))))))) wNil))) (gV 12))
  (wSeq (wSet (wCall W_comers [] (wCons (wSl 0) (wCons (wOf (wOp gAdd (wSl 11) (wOf (wC (.int 1))))) wNil))) (gV 13))
  (wSeq (wIf (wTst (wOp gGe (wOf (wOp gAdd (wOf (wCB gLen (wCons (wSl 7) wNil))) (wOf (wCB gLen (wCons (wOf (wCall W_in_both [] (wCons (wOf (wOp gIx (wSl 0) (wSl 11))) (wCons (wSl 3) wNil)))) wNil))))) (wOf (wOp gAdd (wOf (wOp gSub (wOf (wFld "g" (wVar 1))) (wSl 5))) (wOf (wC (.int 1)))))))
  (wSeq (wDrop (wApp 10 (wVar 11)))
  (wSet (wOp gAdd (wSl 12) (wOf (wCall (starW 1 W_lot_without) [] (wCons (wSl 13) (wCons (wSl 4) (wCons (wSl 3) (wCons (wSl 8) wNil))))))) (gV 12)))
  (wFor (wIt (wSl 13)) (gV 14)
  W_line_from_L1))
  (wSeq (wSet (wCB gTuple (wCons (wOf (wFz (wCBF fSortedP (wCons (wSl 12) wNil)))) wNil)) (gV 7))
  (wDrop (wApp 9 (wVar 7)))))))
def W_line_from : WF1 := wDef 6 15
  (wSeq (wSet (wOp gAdd (wSl 2) (wOf (wFld "d" (wVar 1)))) (gV 6))
  (wSeq (wIf (wTst (wOp gGe (wSl 6) (wOf (wCB gLen (wCons (wSl 0) wNil)))))
  (wRet (wTup (wCons (wOf (wFz (wLst wNil))) (wCons (wOf (wFz (wLst wNil))) wNil))))
  wNext)
  (wSeq (wParT [7, 8, 9, 10] (wQc (wQv (wCall (starW 1 W_lot_without) [] (wCons (wOf (wOp gIx (wSl 0) (wSl 6))) (wCons (wSl 4) (wCons (wSl 3) wNil))))) (wQc wQd (wQc (wQf (wLst wNil)) (wQc (wQf (wLst wNil)) wQn)))))
  (wSeq (wDrop (wApp 9 (wVar 7)))
  (wSeq (wFor (wRg2 (wCons (wSl 6) (wCons (wOf (wOp gSub (wOf (wCB gLen (wCons (wSl 0) wNil))) (wOf (wC (.int 1))))) wNil))) (gV 11)
  W_line_from_L2)
  (wFrz 10 (wFrz 9 (wRet (wTup (wCons (wOf (wVar 9)) (wCons (wOf (wVar 10)) wNil)))))))))))
def W_blanks : WF1 := wDef 6 6
  (wRet (wCB gTuple (wCons (wOf (wOp gIx (wOf (wCall W_line_from [] (wCons (wSl 0) (wCons (wSl 1) (wCons (wSl 2) (wCons (wSl 3) (wCons (wSl 4) (wCons (wSl 5) wNil)))))))) (wOf (wC (.int 0))))) wNil)))
def W_open_words : WF1 := wDef 6 6
  (wRet (wCB gTuple (wCons (wOf (wOp gIx (wOf (wCall W_line_from [] (wCons (wSl 0) (wCons (wSl 1) (wCons (wSl 2) (wCons (wSl 3) (wCons (wSl 4) (wCons (wSl 5) wNil)))))))) (wOf (wC (.int 1))))) wNil)))
def W_having_from_L1 : WS :=
  (wIf (wTst (wOp gGt (wSl 6) (wOf (wC (.int 0)))))
  (wDrop (wApp 5 (wCall (starW 1 W_lot_without) [] (wCons (wOf (wOp gIx (wSl 0) (wOf (wOp gAdd (wOf (wOp gAdd (wSl 2) (wOf (wFld "d" (wVar 1))))) (wSl 6))))) (wCons (wSl 3) (wCons (wSl 7) wNil))))))
  wNext)
def W_having_from : WF1 := wDef 5 9
  (wSeq (wSetF 5 (wLc (wRg2 (wCons (wSl 2) (wCons (wOf (wCB gMin (wCons (wOf (wOp gAdd (wOf (wOp gAdd (wSl 2) (wOf (wFld "d" (wVar 1))))) (wOf (wC (.int 1))))) (wCons (wOf (wCB gLen (wCons (wSl 0) wNil))) wNil)))) wNil))) (gV 8) wYes (wCall W_in_both [] (wCons (wOf (wCall (starW 1 W_lot_without) [] (wCons (wOf (wOp gIx (wSl 0) (wSl 8))) (wCons (wSl 3) wNil)))) (wCons (wSl 4) wNil))) [8]))
  (wSeq (wFor (wEnum (wCons (wOf (wOp gIx (wOf (wCall W_line_from [] (wCons (wSl 0) (wCons (wSl 1) (wCons (wSl 2) (wCons (wSl 3) (wCons (wSl 4) (wCons (wOf (wFld "m" (wVar 1))) wNil)))))))) (wOf (wC (.int 0))))) wNil)) (gTupV 2 (gConsV (gV 6) (gConsV (gV 7) gNilV)))
  W_having_from_L1)
  (wFrz 5 (wRet (wVar 5)))))
def W_Numbers_init_L1 : WS :=
  (wIf (wOr (wNot (wTru (wOf (wCall W_is_number [] (wCons (wSl 9) (wCons (wSl 1) wNil)))))) (wTst (wOp gEq (wSl 9) (wOf (wC (.int 0))))))
  wNev
  wNext)
def W_Numbers_init : WN := wInit 7 10 "Numbers"
  (wSeq (wIf (wOr (wNot (wTru (wOf (wCall W_is_number [] (wCons (wSl 1) (wCons (wOf (wC (.int 12))) wNil)))))) (wTst (wOp gEq (wSl 1) (wOf (wC (.int 0))))))
  wNev
  wNext)
  (wSeq (wIf (wNot (wTru (wOf (wCall W_is_number [] (wCons (wSl 2) (wCons (wSl 1) wNil))))))
  wNev
  wNext)
  (wSeq (wIf (wOr (wNot (wTru (wOf (wCall W_is_number [] (wCons (wSl 3) (wCons (wOf (wC (.int 200))) wNil)))))) (wTst (wOp gEq (wSl 3) (wOf (wC (.int 0))))))
  wNev
  wNext)
  (wSeq (wIf (wOr (wNot (wTru (wOf (wCall W_is_number [] (wCons (wSl 4) (wCons (wOf (wCB gMin (wCons (wSl 1) (wCons (wOf (wC (.int 6))) wNil)))) wNil)))))) (wTst (wOp gEq (wSl 4) (wOf (wC (.int 0))))))
  wNev
  wNext)
  (wSeq (wFor (wEnum (wCons (wOf (wTup (wCons (wOf (wVar 5)) (wCons (wOf (wVar 6)) (wCons (wOf (wVar 7)) wNil))))) wNil)) (gTupV 2 (gConsV (gV 8) (gConsV (gV 9) gNilV)))
  W_Numbers_init_L1)
  (wSeq (wFldS 0 "Numbers" "k" (wVar 1))
  (wSeq (wFldS 0 "Numbers" "f" (wVar 2))
  (wSeq (wFldS 0 "Numbers" "d" (wVar 3))
  (wSeq (wFldS 0 "Numbers" "m" (wVar 4))
  (wSeq (wFldS 0 "Numbers" "w1" (wVar 5))
  (wSeq (wFldS 0 "Numbers" "w2" (wVar 6))
  (wFldS 0 "Numbers" "g" (wVar 7)))))))))))))
def W_Gone_init : WN := wInit 4 5 "Gone"
  (wSeq (wFldS 0 "Gone" "p" (wVar 1))
  (wSeq (wFldS 0 "Gone" "q" (wVar 2))
  (wSeq (wFldS 0 "Gone" "liars" (wVar 3))
  (wFldS 0 "Gone" "keepers" (wVar 4)))))
def W_having : WF1 := wDef 3 3
  (wRet (wOp gIx (wOf (wCall W_having_from [] (wCons (wSl 0) (wCons (wSl 1) (wCons (wOf (wFld "p" (wVar 2))) (wCons (wOf (wFld "liars" (wVar 2))) (wCons (wOf (wFld "keepers" (wVar 2))) wNil))))))) (wOf (wOp gSub (wOf (wFld "q" (wVar 2))) (wOf (wFld "p" (wVar 2)))))))
abbrev W__law_heap : WF1 := W_heap
abbrev W__law_draw : WF1 := W_draw
def W__law_pick : WF1 := wDef 2 2
  (wRet (wOp gIx (wSl 1) (wOf (wCall W__law_draw [] (wCons (wSl 0) (wCons (wOf (wCB gLen (wCons (wSl 1) wNil))) wNil))))))
def W__law_like_of (W__law_like : WF1) : WF1 := wDef 2 4
  (wSeq (wIf (wTru (wOf (wIsi .tuple (wSl 1))))
  (wRet (wAndV (wIsi .tuple (wSl 0)) (wAndV (wOp gEq (wOf (wCB gLen (wCons (wSl 0) wNil))) (wOf (wCB gLen (wCons (wSl 1) wNil)))) (wCB gAll (wCons (wOf (wFz (wLc (wZip (wCons (wSl 0) (wCons (wSl 1) wNil))) (gTupV 2 (gConsV (gV 2) (gConsV (gV 3) gNilV))) wYes (wCall W__law_like [] (wCons (wSl 2) (wCons (wSl 3) wNil))) [2, 3]))) wNil)))))
  wNext)
  (wSeq (wIf (wTst (wOp gIsN (wSl 1) (wOf (wC .non))))
  (wRet (wOp gIsN (wSl 0) (wOf (wC .non))))
  wNext)
  (wSeq (wIf (wTru (wOf (wIsi .bool (wSl 1))))
  (wRet (wIfE (wTru (wSl 1)) (wOp gIsB (wSl 0) (wOf (wC (.bl true)))) (wOp gIsB (wSl 0) (wOf (wC (.bl false))))))
  wNext)
  (wSeq (wIf (wTru (wOf (wIsi .int (wSl 1))))
  (wRet (wAndV (wIsi .int (wSl 0)) (wAndV (wUn gNot (wIsi .bool (wSl 0))) (wOp gEq (wSl 0) (wSl 1)))))
  wNext)
  (wRet (wAndV (wIsi .str (wSl 0)) (wAndV (wIsi .str (wSl 1)) (wOp gEq (wSl 0) (wSl 1)))))))))
def W__law_like_at : Nat → WF1
  | 0 => fun _ _ => False
  | n + 1 => W__law_like_of (W__law_like_at n)
abbrev W__law_like : WF1 := W__law_like_at 4
def W__law_some_L1 : WS :=
  (wDrop (wApp 4 (wPopAt 3 (wCall W__law_draw [] (wCons (wSl 0) (wCons (wOf (wCB gLen (wCons (wSl 3) wNil))) wNil))))))
def W__law_some : WF1 := wDef 3 7
  (wSeq (wPar2 3 4 (wQc (wQf (wLc (wRg1 (wCons (wOf (wCB gLen (wCons (wSl 1) wNil))) wNil)) (gV 6) wYes (wVar 6) [6])) (wQc (wQf (wLst wNil)) wQn)))
  (wSeq (wFor (wRg1 (wCons (wSl 2) wNil)) (gV 5)
  W__law_some_L1)
  (wRet (wCB gTuple (wCons (wOf (wFz (wLc (wIt (wOf (wFz (wCBF fSortedP (wCons (wSl 4) wNil))))) (gV 6) wYes (wOp gIx (wSl 1) (wSl 6)) [6]))) wNil)))))
def W__law_course_L1 : WS :=
  (wSeq (wSet (wFz (wLc (wIt (wSl 1)) (gV 10) (wTst (wOp (gInP true) (wSl 10) (wOf (wOp gIx (wSl 4) (wOf (wUn gNeg (wC (.int 1)))))))) (wVar 10) [10])) (gV 6))
  (wSeq (wSet (wCB gMin (wCons (wOf (wCB gLen (wCons (wSl 6) wNil))) (wCons (wSl 2) (wCons (wOf (wOp gIx (wOf (wFz (wLst (wCons (wOf (wC (.int 0))) (wCons (wOf (wC (.int 0))) (wCons (wOf (wC (.int 1))) (wCons (wOf (wC (.int 1))) (wCons (wOf (wC (.int 2))) (wCons (wOf (wC (.int 3))) (wCons (wOf (wVar 2)) (wCons (wOf (wCall W__law_draw [] (wCons (wSl 0) (wCons (wOf (wOp gAdd (wSl 2) (wOf (wC (.int 1))))) wNil)))) wNil))))))))))) (wOf (wCall W__law_draw [] (wCons (wSl 0) (wCons (wOf (wC (.int 8))) wNil)))))) wNil)))) (gV 7))
  (wSeq (wPar2 8 9 (wQc (wQv (wCall W__law_some [] (wCons (wSl 0) (wCons (wSl 6) (wCons (wSl 7) wNil))))) (wQc (wQv (wCall W__law_some [] (wCons (wSl 0) (wCons (wOf (wOp gIx (wSl 4) (wOf (wUn gNeg (wC (.int 1)))))) (wCons (wOf (wOp gSub (wSl 2) (wSl 7))) wNil))))) wQn)))
  (wDrop (wApp 4 (wCB gTuple (wCons (wOf (wFz (wCBF fSortedP (wCons (wOf (wOp gAdd (wSl 8) (wSl 9))) wNil)))) wNil)))))))
def W__law_course : WF1 := wDef 4 11
  (wSeq (wSetF 4 (wLst (wCons (wOf (wCall W__law_some [] (wCons (wSl 0) (wCons (wSl 1) (wCons (wSl 2) wNil))))) wNil)))
  (wSeq (wFor (wRg1 (wCons (wSl 3) wNil)) (gV 5)
  W__law_course_L1)
  (wRet (wCB gTuple (wCons (wSl 4) wNil)))))
def W__law_line_L1 : WS :=
  (wSeq (wSet (wFz (wLc (wIt (wOf (wOp gIx (wSl 0) (wOf (wOp gAdd (wSl 11) (wOf (wC (.int 1)))))))) (gV 14) (wTst (wOp (gInP true) (wSl 14) (wOf (wOp gIx (wSl 0) (wSl 11))))) (wVar 14) [14])) (gV 12))
  (wSeq (wSet (wFz (wLc (wIt (wOf (wOp gIx (wSl 0) (wOf (wOp gAdd (wSl 11) (wOf (wC (.int 1)))))))) (gV 14) (wTst (wOp (gInP false) (wSl 14) (wSl 7))) (wVar 14) [14])) (gV 13))
  (wSeq (wIf (wTst (wOp gGt (wOf (wOp gAdd (wOf (wCB gLen (wCons (wSl 7) wNil))) (wOf (wCB gSum (wCons (wOf (wFz (wLc (wIt (wOf (wOp gIx (wSl 0) (wSl 11)))) (gV 14) wYes (wCB gInt (wCons (wOf (wOp (gInP false) (wSl 14) (wSl 5))) wNil)) [14]))) wNil))))) (wOf (wOp gSub (wSl 2) (wSl 3)))))
  (wSeq (wDrop (wApp 9 (wVar 11)))
  (wSet (wOp gAdd (wSl 13) (wOf (wFz (wLc (wIt (wSl 12)) (gV 14) (wTst (wOp (gInP true) (wSl 14) (wSl 10))) (wVar 14) [14])))) (gV 13)))
  (wSet (wOp gAdd (wSl 10) (wSl 12)) (gV 10)))
  (wSeq (wSet (wFz (wCBF fSortedP (wCons (wSl 13) wNil))) (gV 7))
  (wDrop (wApp 8 (wCB gTuple (wCons (wSl 7) wNil))))))))
def W__law_line : WF1 := wDef 7 15
  (wSeq (wSet (wFz (wLc (wIt (wOf (wOp gIx (wSl 0) (wOf (wOp gAdd (wSl 4) (wSl 1)))))) (gV 14) (wAnd (wTst (wOp (gInP true) (wSl 14) (wSl 6))) (wTst (wOp (gInP true) (wSl 14) (wSl 5)))) (wVar 14) [14])) (gV 7))
  (wSeq (wParT [8, 9, 10] (wQc (wQf (wLst (wCons (wOf (wCB gTuple (wCons (wSl 7) wNil))) wNil))) (wQc (wQf (wLst wNil)) (wQc (wQv (wOp gAdd (wOf (wFz (wCBF fList (wCons (wSl 5) wNil)))) (wOf (wFz (wCBF fList (wCons (wSl 6) wNil)))))) wQn))))
  (wSeq (wFor (wRg2 (wCons (wOf (wOp gAdd (wSl 4) (wSl 1))) (wCons (wOf (wOp gSub (wOf (wCB gLen (wCons (wSl 0) wNil))) (wOf (wC (.int 1))))) wNil))) (gV 11)
  W__law_line_L1)
  (wFrz 9 (wFrz 8 (wRet (wTup (wCons (wOf (wVar 8)) (wCons (wOf (wVar 9)) wNil)))))))))
def W__law_made : WF1 := wDef 1 11
  (wSeq (wSet (wOp gAdd (wOf (wC (.int 1))) (wOf (wCall W__law_draw [] (wCons (wSl 0) (wCons (wOf (wC (.int 12))) wNil))))) (gV 1))
  (wSeq (wSet (wCall W__law_some [] (wCons (wSl 0) (wCons (wOf (wFz (wLc (wRg1 (wCons (wOf (wC (.int 24))) wNil)) (gV 9) wYes (wVar 9) [9]))) (wCons (wOf (wCB gMin (wCons (wOf (wC (.int 24))) (wCons (wOf (wOp gAdd (wSl 1) (wOf (wCall W__law_draw [] (wCons (wSl 0) (wCons (wOf (wC (.int 13))) wNil)))))) wNil)))) wNil)))) (gV 2))
  (wSeq (wSet (wCall W__law_course [] (wCons (wSl 0) (wCons (wSl 2) (wCons (wSl 1) (wCons (wOf (wCall W__law_pick [] (wCons (wSl 0) (wCons (wOf (wFz (wLst (wCons (wOf (wC (.int 1))) (wCons (wOf (wC (.int 2))) (wCons (wOf (wC (.int 4))) (wCons (wOf (wC (.int 8))) (wCons (wOf (wC (.int 12))) (wCons (wOf (wC (.int 15))) (wCons (wOf (wC (.int 30))) (wCons (wOf (wC (.int 200))) wNil))))))))))) wNil)))) wNil))))) (gV 3))
  (wSeq (wSet (wCB gMin (wCons (wOf (wOp gSub (wOf (wCB gLen (wCons (wSl 3) wNil))) (wOf (wC (.int 1))))) (wCons (wOf (wOp gAdd (wOf (wC (.int 1))) (wOf (wCall W__law_pick [] (wCons (wSl 0) (wCons (wOf (wFz (wLst (wCons (wOf (wC (.int 0))) (wCons (wOf (wC (.int 0))) (wCons (wOf (wC (.int 1))) (wCons (wOf (wCall W__law_draw [] (wCons (wSl 0) (wCons (wOf (wC (.int 6))) wNil)))) (wCons (wOf (wCB gMin (wCons (wOf (wC (.int 30))) (wCons (wOf (wCall W__law_draw [] (wCons (wSl 0) (wCons (wOf (wCB gLen (wCons (wSl 3) wNil))) wNil)))) wNil)))) wNil)))))))) wNil)))))) wNil))) (gV 4))
  (wSeq (wSet (wCall W__law_draw [] (wCons (wSl 0) (wCons (wOf (wOp gSub (wOf (wCB gLen (wCons (wSl 3) wNil))) (wSl 4))) wNil))) (gV 5))
  (wSeq (wSet (wFz (wCBF fSortedP (wCons (wOf (wCB gSet (wCons (wOf (wFz (wCBF fSumL (wCons (wOf (wFz (wLc (wIt (wSl 3)) (gV 10) wYes (wFz (wCBF fList (wCons (wSl 10) wNil))) [10]))) (wCons (wOf (wFz (wLst wNil))) wNil))))) wNil))) wNil))) (gV 6))
  (wSeq (wSet (wCall W__law_some [] (wCons (wSl 0) (wCons (wSl 6) (wCons (wOf (wCall W__law_draw [] (wCons (wSl 0) (wCons (wOf (wOp gAdd (wOf (wCB gMin (wCons (wOf (wC (.int 5))) (wCons (wOf (wCB gLen (wCons (wSl 6) wNil))) wNil)))) (wOf (wC (.int 1))))) wNil)))) wNil)))) (gV 7))
  (wSeq (wSet (wCall W__law_some [] (wCons (wSl 0) (wCons (wOf (wOp gIx (wSl 3) (wSl 5))) (wCons (wOf (wOp gAdd (wOf (wC (.int 1))) (wOf (wCall W__law_draw [] (wCons (wSl 0) (wCons (wSl 1) wNil)))))) wNil)))) (gV 8))
  (wRet (wTup (wCons (wOf (wVar 1)) (wCons (wOf (wVar 2)) (wCons (wOf (wVar 3)) (wCons (wOf (wVar 4)) (wCons (wOf (wVar 5)) (wCons (wOf (wVar 7)) (wCons (wOf (wVar 8)) wNil)))))))))))))))))
def W__law_asked : WF1 := wDef 8 11
  (wSeq (wSet (wMake "Numbers" W_Numbers_init [] (wCons (wOf (wVar 1)) (wCons (wOf (wVar 1)) (wCons (wOf (wVar 2)) (wCons (wOf (wC (.int 1))) (wCons (wOf (wC (.int 1))) (wCons (wOf (wCB gLen (wCons (wSl 7) wNil))) (wCons (wOf (wVar 3)) wNil)))))))) (gV 8))
  (wSeq (wIf (wTst (wOp gGe (wOf (wOp gAdd (wSl 5) (wSl 2))) (wOf (wCB gLen (wCons (wSl 0) wNil)))))
  (wRet (wAndV (wCall W__law_like [] (wCons (wOf (wCall W_blanks [] (wCons (wSl 0) (wCons (wSl 8) (wCons (wSl 5) (wCons (wSl 6) (wCons (wSl 7) (wCons (wSl 4) wNil)))))))) (wCons (wOf (wTup wNil)) wNil))) (wCall W__law_like [] (wCons (wOf (wCall W_open_words [] (wCons (wSl 0) (wCons (wSl 8) (wCons (wSl 5) (wCons (wSl 6) (wCons (wSl 7) (wCons (wSl 4) wNil)))))))) (wCons (wOf (wTup wNil)) wNil)))))
  wNext)
  (wSeq (wSet (wCall W__law_line [] (wCons (wSl 0) (wCons (wSl 2) (wCons (wSl 3) (wCons (wSl 4) (wCons (wSl 5) (wCons (wSl 6) (wCons (wSl 7) wNil)))))))) (gTupV 2 (gConsV (gV 9) (gConsV (gV 10) gNilV))))
  (wSeq (wIf (wNot (wTru (wOf (wCall W__law_like [] (wCons (wOf (wCall W_blanks [] (wCons (wSl 0) (wCons (wSl 8) (wCons (wSl 5) (wCons (wSl 6) (wCons (wSl 7) (wCons (wSl 4) wNil)))))))) (wCons (wOf (wCB gTuple (wCons (wSl 9) wNil))) wNil))))))
  (wRet (wC (.bl false)))
  wNext)
  (wRet (wCall W__law_like [] (wCons (wOf (wCall W_open_words [] (wCons (wSl 0) (wCons (wSl 8) (wCons (wSl 5) (wCons (wSl 6) (wCons (wSl 7) (wCons (wSl 4) wNil)))))))) (wCons (wOf (wCB gTuple (wCons (wSl 10) wNil))) wNil))))))))
def W__law_due_having : WF1 := wDef 8 11
  (wSeq (wSet (wFz (wLc (wIt (wOf (wOp gIx (wSl 0) (wSl 5)))) (gV 10) (wTst (wOp (gInP true) (wSl 10) (wSl 6))) (wVar 10) [10])) (gV 8))
  (wSeq (wIf (wTst (wOp gLe (wSl 5) (wOf (wOp gAdd (wSl 4) (wSl 1)))))
  (wRet (wFz (wLc (wIt (wSl 8)) (gV 10) (wTst (wOp (gInP false) (wSl 10) (wSl 7))) (wVar 10) [10])))
  wNext)
  (wSeq (wSet (wOp gIx (wOf (wOp gIx (wOf (wCall W__law_line [] (wCons (wSl 0) (wCons (wSl 1) (wCons (wSl 2) (wCons (wSl 3) (wCons (wSl 4) (wCons (wSl 6) (wCons (wSl 7) wNil))))))))) (wOf (wC (.int 0))))) (wOf (wOp gSub (wOf (wOp gSub (wSl 5) (wSl 4))) (wSl 1)))) (gV 9))
  (wRet (wFz (wLc (wIt (wSl 8)) (gV 10) (wTst (wOp (gInP true) (wSl 10) (wSl 9))) (wVar 10) [10]))))))
def W__law_asked_having_L1 : WS :=
  (wSeq (wSet (wMake "Numbers" W_Numbers_init [] (wCons (wOf (wVar 2)) (wCons (wOf (wVar 2)) (wCons (wOf (wVar 3)) (wCons (wOf (wVar 13)) (wCons (wOf (wC (.int 1))) (wCons (wOf (wCB gLen (wCons (wSl 7) wNil))) (wCons (wOf (wVar 4)) wNil)))))))) (gV 14))
  (wSeq (wSet (wCall W_having [] (wCons (wSl 1) (wCons (wSl 14) (wCons (wOf (wMake "Gone" W_Gone_init [] (wCons (wOf (wVar 5)) (wCons (wOf (wOp gSub (wOf (wCB gLen (wCons (wSl 1) wNil))) (wOf (wC (.int 1))))) (wCons (wOf (wVar 6)) (wCons (wOf (wVar 7)) wNil)))))) wNil)))) (gV 12))
  (wSeq (wIf (wAnd (wTst (wOp gNotN (wSl 10) (wOf (wC .non)))) (wNot (wTru (wOf (wCB gAll (wCons (wOf (wFz (wLc (wIt (wSl 12)) (gV 15) wYes (wOp (gInP false) (wSl 15) (wSl 10)) [15]))) wNil))))))
  (wRet (wC (.bl false)))
  wNext)
  (wSet (wVar 12) (gV 10)))))
def W__law_asked_having_L2 : WS :=
  (wIf (wTst (wOp gLt (wSl 11) (wOf (wCB gLen (wCons (wSl 1) wNil)))))
  (wSeq (wSet (wCall W_having [] (wCons (wSl 1) (wCons (wSl 9) (wCons (wOf (wMake "Gone" W_Gone_init [] (wCons (wOf (wVar 5)) (wCons (wOf (wVar 11)) (wCons (wOf (wVar 6)) (wCons (wOf (wVar 7)) wNil)))))) wNil)))) (gV 12))
  (wIf (wNot (wTru (wOf (wCall W__law_like [] (wCons (wSl 12) (wCons (wOf (wCB gTuple (wCons (wOf (wCall W__law_due_having [] (wCons (wSl 1) (wCons (wSl 3) (wCons (wSl 4) (wCons (wSl 8) (wCons (wSl 5) (wCons (wSl 11) (wCons (wSl 6) (wCons (wSl 7) wNil)))))))))) wNil))) wNil))))))
  (wRet (wC (.bl false)))
  wNext))
  wNext)
def W__law_asked_having : WF1 := wDef 8 16
  (wSeq (wSet (wOp gAdd (wOf (wC (.int 1))) (wOf (wCall W__law_draw [] (wCons (wSl 0) (wCons (wOf (wCB gMin (wCons (wOf (wC (.int 6))) (wCons (wSl 2) wNil)))) wNil))))) (gV 8))
  (wSeq (wParT [9, 10] (wQc (wQv (wMake "Numbers" W_Numbers_init [] (wCons (wOf (wVar 2)) (wCons (wOf (wVar 2)) (wCons (wOf (wVar 3)) (wCons (wOf (wVar 8)) (wCons (wOf (wOp gAdd (wOf (wC (.int 1))) (wOf (wCall W__law_draw [] (wCons (wSl 0) (wCons (wSl 2) wNil)))))) (wCons (wOf (wCB gLen (wCons (wSl 7) wNil))) (wCons (wOf (wVar 4)) wNil))))))))) (wQc (wQv (wC .non)) wQn)))
  (wSeq (wFor (wIt (wOf (wFz (wLst (wCons (wOf (wVar 5)) (wCons (wOf (wOp gAdd (wSl 5) (wOf (wC (.int 1))))) (wCons (wOf (wOp gAdd (wSl 5) (wSl 3))) (wCons (wOf (wOp gAdd (wOf (wOp gAdd (wSl 5) (wSl 3))) (wOf (wC (.int 1))))) (wCons (wOf (wOp gAdd (wOf (wOp gAdd (wSl 5) (wSl 3))) (wOf (wC (.int 2))))) (wCons (wOf (wOp gSub (wOf (wCB gLen (wCons (wSl 1) wNil))) (wOf (wC (.int 1))))) (wCons (wOf (wOp gAdd (wSl 5) (wOf (wCall W__law_draw [] (wCons (wSl 0) (wCons (wOf (wOp gSub (wOf (wCB gLen (wCons (wSl 1) wNil))) (wSl 5))) wNil)))))) wNil))))))))))) (gV 11)
  W__law_asked_having_L2)
  (wSeq (wFor (wRg2 (wCons (wOf (wC (.int 1))) (wCons (wOf (wOp gAdd (wOf (wCB gMin (wCons (wOf (wC (.int 6))) (wCons (wSl 2) wNil)))) (wOf (wC (.int 1))))) wNil))) (gV 13)
  W__law_asked_having_L1)
  (wRet (wC (.bl true)))))))
def W__law_asked_more_L1 : WS :=
  (wSeq (wSet (wFz (wLc (wIt (wOf (wOp gIx (wSl 1) (wOf (wOp gAdd (wOf (wOp gAdd (wSl 6) (wSl 3))) (wSl 15)))))) (gV 18) (wOr (wTst (wOp (gInP false) (wSl 18) (wSl 7))) (wTst (wOp (gInP false) (wSl 18) (wSl 16)))) (wVar 18) [18])) (gV 17))
  (wIf (wOr (wNot (wTru (wOf (wCB gAll (wCons (wOf (wFz (wLc (wIt (wSl 17)) (gV 18) wYes (wOrV (wOp (gInP false) (wSl 18) (wSl 11)) (wOp (gInP false) (wSl 18) (wOf (wOp gIx (wSl 13) (wSl 15))))) [18]))) wNil))))) (wNot (wTru (wOf (wCB gAll (wCons (wOf (wFz (wLc (wIt (wSl 16)) (gV 18) wYes (wOp (gInP false) (wSl 18) (wOf (wOp gIx (wSl 14) (wSl 15)))) [18]))) wNil))))))
  (wRet (wC (.bl false)))
  wNext))
def W__law_asked_more : WF1 := wDef 10 19
  (wSeq (wSet (wMake "Numbers" W_Numbers_init [] (wCons (wOf (wVar 2)) (wCons (wOf (wVar 2)) (wCons (wOf (wVar 3)) (wCons (wOf (wC (.int 1))) (wCons (wOf (wC (.int 1))) (wCons (wOf (wCB gLen (wCons (wSl 8) wNil))) (wCons (wOf (wVar 4)) wNil)))))))) (gV 10))
  (wSeq (wSet (wCB gTuple (wCons (wOf (wFz (wCBF fSortedP (wCons (wOf (wCB gSet (wCons (wOf (wOp gAdd (wSl 7) (wOf (wTup (wCons (wOf (wCall W__law_pick [] (wCons (wSl 0) (wCons (wSl 9) wNil)))) wNil))))) wNil))) wNil)))) wNil)) (gV 11))
  (wSeq (wParT [12, 13] (wQc (wQv (wCall W_blanks [] (wCons (wSl 1) (wCons (wSl 10) (wCons (wSl 6) (wCons (wSl 7) (wCons (wSl 8) (wCons (wSl 5) wNil)))))))) (wQc (wQv (wCall W_blanks [] (wCons (wSl 1) (wCons (wSl 10) (wCons (wSl 6) (wCons (wSl 11) (wCons (wSl 8) (wCons (wSl 5) wNil)))))))) wQn)))
  (wSeq (wSet (wCall W_blanks [] (wCons (wSl 1) (wCons (wSl 10) (wCons (wSl 6) (wCons (wSl 7) (wCons (wSl 8) (wCons (wOf (wOp gAdd (wSl 5) (wOf (wC (.int 1))))) wNil))))))) (gV 14))
  (wSeq (wIf (wNot (wTru (wOf (wCall W__law_like [] (wCons (wSl 13) (wCons (wOf (wCB gTuple (wCons (wOf (wOp gIx (wOf (wCall W__law_line [] (wCons (wSl 1) (wCons (wSl 3) (wCons (wSl 4) (wCons (wSl 5) (wCons (wSl 6) (wCons (wSl 11) (wCons (wSl 8) wNil))))))))) (wOf (wC (.int 0))))) wNil))) wNil))))))
  (wRet (wC (.bl false)))
  wNext)
  (wSeq (wFor (wEnum (wCons (wSl 12) wNil)) (gTupV 2 (gConsV (gV 15) (gConsV (gV 16) gNilV)))
  W__law_asked_more_L1)
  (wRet (wC (.bl true)))))))))
def W_law_L1 : WS :=
  (wSeq (wIf (wAnd (wTst (wOp gLe (wSl 11) (wSl 2))) (wAnd (wTst (wOp gGt (wSl 11) (wOf (wC (.int 0))))) (wNot (wTru (wOf (wCall W__law_asked [] (wCons (wSl 4) (wCons (wSl 2) (wCons (wSl 5) (wCons (wSl 11) (wCons (wSl 12) (wCons (wSl 6) (wCons (wSl 7) (wCons (wSl 8) wNil))))))))))))))
  (wRet (wC (.bl false)))
  wNext)
  (wIf (wAnd (wTst (wOp gLe (wSl 11) (wSl 2))) (wAnd (wTst (wOp gGt (wSl 11) (wOf (wC (.int 0))))) (wAnd (wTst (wOp gEq (wOf (wCall W__law_draw [] (wCons (wSl 1) (wCons (wOf (wC (.int 3))) wNil)))) (wOf (wC (.int 0))))) (wNot (wTru (wOf (wCall W__law_asked_having [] (wCons (wSl 1) (wCons (wSl 4) (wCons (wSl 2) (wCons (wSl 5) (wCons (wSl 11) (wCons (wSl 6) (wCons (wSl 7) (wCons (wSl 8) wNil)))))))))))))))
  (wRet (wC (.bl false)))
  wNext))
def W_law_L2 : WS :=
  (wSeq (wSet (wOp gAdd (wOf (wC (.int 1))) (wOf (wCall W__law_draw [] (wCons (wSl 1) (wCons (wOf (wC (.int 6))) wNil))))) (gV 12))
  (wSeq (wSet (wCall W__law_line [] (wCons (wSl 4) (wCons (wSl 5) (wCons (wSl 11) (wCons (wSl 12) (wCons (wSl 6) (wCons (wSl 7) (wCons (wSl 8) wNil)))))))) (gTupV 2 (gConsV (gV 13) (gConsV (gV 14) gNilV))))
  (wSeq (wSet (wCall W__law_draw [] (wCons (wSl 1) (wCons (wOf (wCB gLen (wCons (wSl 13) wNil))) wNil))) (gV 15))
  (wSeq (wSet (wOp gAdd (wOf (wCB gLen (wCons (wOf (wOp gIx (wSl 13) (wSl 15))) wNil))) (wOf (wCB gSum (wCons (wOf (wFz (wLc (wIt (wOf (wOp gIx (wSl 4) (wOf (wOp gAdd (wOf (wOp gAdd (wSl 6) (wSl 5))) (wSl 15)))))) (gV 17) wYes (wCB gInt (wCons (wOf (wOp (gInP false) (wSl 17) (wSl 7))) wNil)) [17]))) wNil)))) (gV 16))
  (wSet (wOp gAdd (wSl 10) (wOf (wFz (wLst (wCons (wOf (wTup (wCons (wOf (wVar 16)) (wCons (wOf (wC (.int 1))) wNil)))) (wCons (wOf (wTup (wCons (wOf (wOp gAdd (wSl 16) (wOf (wC (.int 1))))) (wCons (wOf (wC (.int 1))) wNil)))) (wCons (wOf (wTup (wCons (wOf (wOp gSub (wOf (wOp gAdd (wSl 16) (wSl 12))) (wOf (wC (.int 1))))) (wCons (wOf (wVar 12)) wNil)))) (wCons (wOf (wTup (wCons (wOf (wOp gAdd (wSl 16) (wSl 12))) (wCons (wOf (wVar 12)) wNil)))) (wCons (wOf (wTup (wCons (wOf (wOp gAdd (wOf (wOp gAdd (wSl 16) (wSl 12))) (wOf (wC (.int 1))))) (wCons (wOf (wVar 12)) wNil)))) wNil))))))))) (gV 10))))))
def W_law : WF1 := wDef 1 19
  (wSeq (wSet (wCall W__law_heap [] (wCons (wSl 0) wNil)) (gV 1))
  (wSeq (wSet (wCall W__law_made [] (wCons (wSl 1) wNil)) (gTupV 7 (gConsV (gV 2) (gConsV (gV 3) (gConsV (gV 4) (gConsV (gV 5) (gConsV (gV 6) (gConsV (gV 7) (gConsV (gV 8) gNilV)))))))))
  (wSeq (wSet (wCB gMin (wCons (wOf (wC (.int 200))) (wCons (wOf (wOp gAdd (wOf (wOp gSub (wOf (wCB gLen (wCons (wSl 4) wNil))) (wSl 6))) (wOf (wCall W__law_draw [] (wCons (wSl 1) (wCons (wOf (wC (.int 3))) wNil)))))) wNil))) (gV 9))
  (wSeq (wIf (wAnd (wTst (wOp gGe (wOf (wOp gAdd (wSl 6) (wSl 9))) (wOf (wCB gLen (wCons (wSl 4) wNil))))) (wNot (wTru (wOf (wCall W__law_asked [] (wCons (wSl 4) (wCons (wSl 2) (wCons (wSl 9) (wCons (wOf (wOp gAdd (wOf (wC (.int 1))) (wOf (wCall W__law_draw [] (wCons (wSl 1) (wCons (wSl 2) wNil)))))) (wCons (wOf (wC (.int 1))) (wCons (wSl 6) (wCons (wSl 7) (wCons (wSl 8) wNil)))))))))))))
  (wRet (wC (.bl false)))
  wNext)
  (wSeq (wSet (wFz (wLst (wCons (wOf (wTup (wCons (wOf (wOp gAdd (wOf (wC (.int 1))) (wOf (wCall W__law_draw [] (wCons (wSl 1) (wCons (wSl 2) wNil)))))) (wCons (wOf (wC (.int 1))) wNil)))) wNil))) (gV 10))
  (wSeq (wFor (wIt (wOf (wFz (wLst (wCons (wOf (wOp gAdd (wOf (wC (.int 1))) (wOf (wCall W__law_draw [] (wCons (wSl 1) (wCons (wSl 2) wNil)))))) (wCons (wOf (wVar 2)) wNil)))))) (gV 11)
  W_law_L2)
  (wSeq (wIf (wTst (wOp gGt (wOf (wCB gLen (wCons (wSl 4) wNil))) (wOf (wC (.int 60)))))
  (wSeq (wSet (wCall W__law_pick [] (wCons (wSl 1) (wCons (wOf (wFz (wLc (wIt (wSl 10)) (gV 18) (wAnd (wTst (wOp gLe (wOf (wOp gIx (wSl 18) (wOf (wC (.int 0))))) (wSl 2))) (wTst (wOp gGt (wOf (wOp gIx (wSl 18) (wOf (wC (.int 0))))) (wOf (wC (.int 0)))))) (wVar 18) [18]))) wNil))) (gTupV 2 (gConsV (gV 11) (gConsV (gV 12) gNilV))))
  (wRet (wCall W__law_asked [] (wCons (wSl 4) (wCons (wSl 2) (wCons (wSl 5) (wCons (wSl 11) (wCons (wSl 12) (wCons (wSl 6) (wCons (wSl 7) (wCons (wSl 8) wNil)))))))))))
  wNext)
  (wSeq (wFor (wIt (wSl 10)) (gTupV 2 (gConsV (gV 11) (gConsV (gV 12) gNilV)))
  W_law_L1)
  (wSeq (wSet (wOp gIx (wOf (wOp gIx (wSl 10) (wOf (wC (.int 0))))) (wOf (wC (.int 0)))) (gV 11))
  (wSeq (wIf (wOr (wNot (wTru (wOf (wCall W__law_asked [] (wCons (wSl 4) (wCons (wSl 2) (wCons (wSl 5) (wCons (wSl 11) (wCons (wSl 11) (wCons (wSl 6) (wCons (wOf (wTup wNil)) (wCons (wSl 8) wNil)))))))))))) (wNot (wTru (wOf (wCall W__law_asked [] (wCons (wSl 4) (wCons (wSl 2) (wCons (wSl 5) (wCons (wSl 11) (wCons (wOf (wC (.int 1))) (wCons (wSl 6) (wCons (wOf (wOp gIx (wSl 4) (wSl 6))) (wCons (wSl 8) wNil)))))))))))))
  (wRet (wC (.bl false)))
  wNext)
  (wSeq (wIf (wNot (wTru (wOf (wCall W__law_asked [] (wCons (wSl 4) (wCons (wSl 2) (wCons (wSl 5) (wCons (wSl 11) (wCons (wOf (wC (.int 1))) (wCons (wOf (wOp gSub (wOf (wCB gLen (wCons (wSl 4) wNil))) (wOf (wC (.int 1))))) (wCons (wSl 7) (wCons (wOf (wCall W__law_some [] (wCons (wSl 1) (wCons (wOf (wOp gIx (wSl 4) (wOf (wUn gNeg (wC (.int 1)))))) (wCons (wOf (wC (.int 1))) wNil))))) wNil))))))))))))
  (wRet (wC (.bl false)))
  wNext)
  (wRet (wAndV (wCall W__law_asked_having [] (wCons (wSl 1) (wCons (wSl 4) (wCons (wSl 2) (wCons (wSl 5) (wCons (wSl 11) (wCons (wSl 6) (wCons (wSl 7) (wCons (wSl 8) wNil))))))))) (wCall W__law_asked_more [] (wCons (wSl 1) (wCons (wSl 4) (wCons (wSl 2) (wCons (wSl 5) (wCons (wSl 11) (wCons (wOf (wOp gAdd (wOf (wC (.int 1))) (wOf (wCall W__law_draw [] (wCons (wSl 1) (wCons (wOf (wC (.int 6))) wNil)))))) (wCons (wSl 6) (wCons (wSl 7) (wCons (wSl 8) (wCons (wSl 3) wNil))))))))))))))))))))))))
end K27

namespace K27
open PySem PySem.Spec PyProof.Rows L2 Hl Vl
def top (i : Nat) : Stmt := PySem.Challenge.pw_piecesapart_k27_whole_lines_of_blanks.main.body.getD i (.Pass ⟨0, 0, 0, 0⟩)
abbrev s_is_integer : Stmt := top 1
abbrev N_is_integer : List Str := ["value"]
theorem sc_is_integer : FnScope N_is_integer ["value"] (defScope s_is_integer) := ⟨rfl, rfl, rfl, by decide +kernel, rfl, by decide +kernel, by decide +kernel⟩
abbrev s_is_number : Stmt := top 2
abbrev N_is_number : List Str := ["value", "most"]
theorem sc_is_number : FnScope N_is_number ["value", "most"] (defScope s_is_number) := ⟨rfl, rfl, rfl, by decide +kernel, rfl, by decide +kernel, by decide +kernel⟩
abbrev s_comers : Stmt := top 4
abbrev N_comers : List Str := ["course", "i", "house"]
theorem sc_comers : FnScope N_comers ["course", "i"] (defScope s_comers) := ⟨rfl, rfl, rfl, by decide +kernel, rfl, by decide +kernel, by decide +kernel⟩
abbrev s_in_both : Stmt := top 5
abbrev N_in_both : List Str := ["one", "other", "house"]
theorem sc_in_both : FnScope N_in_both ["one", "other"] (defScope s_in_both) := ⟨rfl, rfl, rfl, by decide +kernel, rfl, by decide +kernel, by decide +kernel⟩
abbrev s_lot_without : Stmt := top 6
abbrev N_lot_without : List Str := ["lot", "others", "house", "other"]
theorem sc_lot_without : FnScope N_lot_without ["lot", "others"] (defScope s_lot_without) := ⟨rfl, rfl, rfl, by decide +kernel, rfl, by decide +kernel, by decide +kernel⟩
abbrev s_line_from : Stmt := top 8
abbrev N_line_from : List Str := ["course", "numbers", "p", "liars", "keepers", "need", "start", "blank", "late", "lots", "gates", "i", "stay", "fresh", "house"]
theorem sc_line_from : FnScope N_line_from ["course", "numbers", "p", "liars", "keepers", "need"] (defScope s_line_from) := ⟨rfl, rfl, rfl, by decide +kernel, rfl, by decide +kernel, by decide +kernel⟩
abbrev s_blanks : Stmt := top 9
abbrev N_blanks : List Str := ["course", "numbers", "p", "liars", "keepers", "need"]
theorem sc_blanks : FnScope N_blanks ["course", "numbers", "p", "liars", "keepers", "need"] (defScope s_blanks) := ⟨rfl, rfl, rfl, by decide +kernel, rfl, by decide +kernel, by decide +kernel⟩
abbrev s_open_words : Stmt := top 10
abbrev N_open_words : List Str := ["course", "numbers", "p", "liars", "keepers", "need"]
theorem sc_open_words : FnScope N_open_words ["course", "numbers", "p", "liars", "keepers", "need"] (defScope s_open_words) := ⟨rfl, rfl, rfl, by decide +kernel, rfl, by decide +kernel, by decide +kernel⟩
abbrev s_having_from : Stmt := top 11
abbrev N_having_from : List Str := ["course", "numbers", "p", "liars", "keepers", "lots", "place", "blank", "q"]
theorem sc_having_from : FnScope N_having_from ["course", "numbers", "p", "liars", "keepers"] (defScope s_having_from) := ⟨rfl, rfl, rfl, by decide +kernel, rfl, by decide +kernel, by decide +kernel⟩
abbrev s_Numbers_init : Stmt := inClass (top 19) 0
abbrev N_Numbers_init : List Str := ["self", "k", "f", "d", "m", "w1", "w2", "g", "place", "many"]
theorem sc_Numbers_init : FnScope N_Numbers_init ["self", "k", "f", "d", "m", "w1", "w2", "g"] (defScope s_Numbers_init) := ⟨rfl, rfl, rfl, by decide +kernel, rfl, by decide +kernel, by decide +kernel⟩
abbrev s_Gone_init : Stmt := inClass (top 21) 0
abbrev N_Gone_init : List Str := ["self", "p", "q", "liars", "keepers"]
theorem sc_Gone_init : FnScope N_Gone_init ["self", "p", "q", "liars", "keepers"] (defScope s_Gone_init) := ⟨rfl, rfl, rfl, by decide +kernel, rfl, by decide +kernel, by decide +kernel⟩
abbrev s_having : Stmt := top 22
abbrev N_having : List Str := ["course", "numbers", "plan"]
theorem sc_having : FnScope N_having ["course", "numbers", "plan"] (defScope s_having) := ⟨rfl, rfl, rfl, by decide +kernel, rfl, by decide +kernel, by decide +kernel⟩
abbrev s__law_heap : Stmt := top 24
abbrev N__law_heap : List Str := ["script", "cells", "stir", "cell"]
theorem sc__law_heap : FnScope N__law_heap ["script"] (defScope s__law_heap) := ⟨rfl, rfl, rfl, by decide +kernel, rfl, by decide +kernel, by decide +kernel⟩
abbrev s__law_draw : Stmt := top 25
abbrev N__law_draw : List Str := ["heap", "many", "rest"]
theorem sc__law_draw : FnScope N__law_draw ["heap", "many"] (defScope s__law_draw) := ⟨rfl, rfl, rfl, by decide +kernel, rfl, by decide +kernel, by decide +kernel⟩
abbrev s__law_pick : Stmt := top 26
abbrev N__law_pick : List Str := ["heap", "some"]
theorem sc__law_pick : FnScope N__law_pick ["heap", "some"] (defScope s__law_pick) := ⟨rfl, rfl, rfl, by decide +kernel, rfl, by decide +kernel, by decide +kernel⟩
abbrev s__law_like : Stmt := top 27
abbrev N__law_like : List Str := ["told", "due", "one", "other"]
theorem sc__law_like : FnScope N__law_like ["told", "due"] (defScope s__law_like) := ⟨rfl, rfl, rfl, by decide +kernel, rfl, by decide +kernel, by decide +kernel⟩
abbrev s__law_some : Stmt := top 28
abbrev N__law_some : List Str := ["heap", "pool", "many", "left", "found", "turn", "place"]
theorem sc__law_some : FnScope N__law_some ["heap", "pool", "many"] (defScope s__law_some) := ⟨rfl, rfl, rfl, by decide +kernel, rfl, by decide +kernel, by decide +kernel⟩
abbrev s__law_course : Stmt := top 29
abbrev N__law_course : List Str := ["heap", "pool", "k", "words", "lots", "turn", "out", "go", "fresh", "left", "house"]
theorem sc__law_course : FnScope N__law_course ["heap", "pool", "k", "words"] (defScope s__law_course) := ⟨rfl, rfl, rfl, by decide +kernel, rfl, by decide +kernel, by decide +kernel⟩
abbrev s__law_line : Stmt := top 30
abbrev N__law_line : List Str := ["course", "d", "g", "need", "p", "liars", "keepers", "blank", "lots", "gates", "barred", "i", "fresh", "stay", "house"]
theorem sc__law_line : FnScope N__law_line ["course", "d", "g", "need", "p", "liars", "keepers"] (defScope s__law_line) := ⟨rfl, rfl, rfl, by decide +kernel, rfl, by decide +kernel, by decide +kernel⟩
abbrev s__law_made : Stmt := top 31
abbrev N__law_made : List Str := ["heap", "k", "pool", "course", "d", "p", "there", "liars", "keepers", "house", "lot"]
theorem sc__law_made : FnScope N__law_made ["heap"] (defScope s__law_made) := ⟨rfl, rfl, rfl, by decide +kernel, rfl, by decide +kernel, by decide +kernel⟩
abbrev s__law_asked : Stmt := top 32
abbrev N__law_asked : List Str := ["course", "k", "d", "g", "need", "p", "liars", "keepers", "numbers", "lots", "gates"]
theorem sc__law_asked : FnScope N__law_asked ["course", "k", "d", "g", "need", "p", "liars", "keepers"] (defScope s__law_asked) := ⟨rfl, rfl, rfl, by decide +kernel, rfl, by decide +kernel, by decide +kernel⟩
abbrev s__law_due_having : Stmt := top 33
abbrev N__law_due_having : List Str := ["course", "d", "g", "m", "p", "q", "liars", "keepers", "honest", "blank", "house"]
theorem sc__law_due_having : FnScope N__law_due_having ["course", "d", "g", "m", "p", "q", "liars", "keepers"] (defScope s__law_due_having) := ⟨rfl, rfl, rfl, by decide +kernel, rfl, by decide +kernel, by decide +kernel⟩
abbrev s__law_asked_having : Stmt := top 34
abbrev N__law_asked_having : List Str := ["heap", "course", "k", "d", "g", "p", "liars", "keepers", "m", "numbers", "before", "q", "told", "more", "other", "house"]
theorem sc__law_asked_having : FnScope N__law_asked_having ["heap", "course", "k", "d", "g", "p", "liars", "keepers"] (defScope s__law_asked_having) := ⟨rfl, rfl, rfl, by decide +kernel, rfl, by decide +kernel, by decide +kernel⟩
abbrev s__law_asked_more : Stmt := top 35
abbrev N__law_asked_more : List Str := ["heap", "course", "k", "d", "g", "need", "p", "liars", "keepers", "pool", "numbers", "more", "one", "other", "third", "i", "lot", "there", "house"]
theorem sc__law_asked_more : FnScope N__law_asked_more ["heap", "course", "k", "d", "g", "need", "p", "liars", "keepers", "pool"] (defScope s__law_asked_more) := ⟨rfl, rfl, rfl, by decide +kernel, rfl, by decide +kernel, by decide +kernel⟩
abbrev s_law : Stmt := top 36
abbrev N_law : List Str := ["script", "heap", "k", "pool", "course", "d", "p", "liars", "keepers", "lag", "edges", "g", "need", "lots", "gates", "at", "there", "house", "one"]
theorem sc_law : FnScope N_law ["script"] (defScope s_law) := ⟨rfl, rfl, rfl, by decide +kernel, rfl, by decide +kernel, by decide +kernel⟩
structure Txt (K : PySem.W.Frag) (mg : Str → Option Value) where
  abs : mg "abs" = none
  all : mg "all" = none
  any : mg "any" = none
  bool : mg "bool" = none
  enumerate : mg "enumerate" = none
  int : mg "int" = none
  isinstance : mg "isinstance" = none
  len : mg "len" = none
  list : mg "list" = none
  min : mg "min" = none
  range : mg "range" = none
  set : mg "set" = none
  sorted : mg "sorted" = none
  str : mg "str" = none
  sum : mg "sum" = none
  tuple : mg "tuple" = none
  zip : mg "zip" = none
  t_MOST_COPIES : Tok
  c_MOST_COPIES : mg "MOST_COPIES" = some (.int 12 t_MOST_COPIES)
  t_MOST_LAG : Tok
  c_MOST_LAG : mg "MOST_LAG" = some (.int 200 t_MOST_LAG)
  t_MOST_PIECES : Tok
  c_MOST_PIECES : mg "MOST_PIECES" = some (.int 6 t_MOST_PIECES)
  C_Numbers : Addr
  fI_Numbers : Addr
  m_Numbers : mg "Numbers" = some (.ref C_Numbers)
  mk_Numbers : Mk K C_Numbers fI_Numbers
  cl_Numbers : Cls K C_Numbers
  n_Numbers_k : ∀ C, mg "Numbers" = some (.ref C) → NoAttr K C "k"
  n_Numbers_f : ∀ C, mg "Numbers" = some (.ref C) → NoAttr K C "f"
  n_Numbers_d : ∀ C, mg "Numbers" = some (.ref C) → NoAttr K C "d"
  n_Numbers_m : ∀ C, mg "Numbers" = some (.ref C) → NoAttr K C "m"
  n_Numbers_w1 : ∀ C, mg "Numbers" = some (.ref C) → NoAttr K C "w1"
  n_Numbers_w2 : ∀ C, mg "Numbers" = some (.ref C) → NoAttr K C "w2"
  n_Numbers_g : ∀ C, mg "Numbers" = some (.ref C) → NoAttr K C "g"
  C_Gone : Addr
  fI_Gone : Addr
  m_Gone : mg "Gone" = some (.ref C_Gone)
  mk_Gone : Mk K C_Gone fI_Gone
  cl_Gone : Cls K C_Gone
  n_Gone_p : ∀ C, mg "Gone" = some (.ref C) → NoAttr K C "p"
  n_Gone_q : ∀ C, mg "Gone" = some (.ref C) → NoAttr K C "q"
  n_Gone_liars : ∀ C, mg "Gone" = some (.ref C) → NoAttr K C "liars"
  n_Gone_keepers : ∀ C, mg "Gone" = some (.ref C) → NoAttr K C "keepers"
section
variable {P : Program} {w : World} {K : PySem.W.Frag} {mg : Str → Option Value} {base : Heap}
theorem ok_is_integer {f : Addr} {fd : FuncData} (F : Fun K "is_integer" "is_integer" s_is_integer f fd) (T : Txt K mg) : FnOk P w K mg base CX0 1 f fd ["value"] (spV (gxOf K w mg) W_is_integer) := by
  refine F.ok sc_is_integer (fun vs H Q E h => spV_len (fun h => h.1) h) (fun cdv A outer s H vs Q E hr h => okV (N := N_is_integer) rfl
  (vb_one (vs_ret (ve_and (ve_isi (U := .int) rfl (vo_var (pv 0)) (pe_ty "int" (by rfl) T.int) (by rfl) T.isinstance) (ve_one (ve_not (ve_isi (U := .bool) rfl (vo_var (pv 0)) (pe_ty "bool" (by rfl) T.bool) (by rfl) T.isinstance)))))) h)
theorem ok_is_number {f : Addr} {fd : FuncData} (F : FunD K "is_number" "is_number" (defArgs s_is_number) (defBody s_is_number) (defScope s_is_number) [.non] [] f fd) (T : Txt K mg) (D_is_integer : Df P w K mg base 1 "is_integer" ["value"] (spV (gxOf K w mg) W_is_integer)) : FnOk P w K mg base CX0 2 f fd ["value", "most"] (spV (gxOf K w mg) W_is_number) := by
  refine F.ok sc_is_number (fun vs H Q E h => spV_len (fun h => h.1) h) (fun cdv A outer s H vs Q E hr h => okV (N := N_is_number) rfl
  (vb_one (vs_ret (ve_and (ve_call D_is_integer.ok (hr.mono (by first | decide | omega)) (by rfl) D_is_integer.m D_is_integer.kp D_is_integer.b .nil (fun _ _ => .nil) pass0 (va_cons (vo_var (pv 0)) va_nil)) (ve_and (ve_cmp op_ge os_ge (vo_var (pv 0)) (vo_of (ve_int pe_int)) (nomark _)) (ve_one (ve_or (ve_cmp op_isN os_isN (vo_var (pv 1)) (vo_of (ve_non pe_non)) (nomark _)) (ve_one (ve_cmp op_le os_le (vo_var (pv 0)) (vo_var (pv 1)) (nomark _))))))))) h)
theorem ok_comers {f : Addr} {fd : FuncData} (F : Fun K "comers" "comers" s_comers f fd) (T : Txt K mg) : FnOk P w K mg base CX0 1 f fd ["course", "i"] (spV (gxOf K w mg) W_comers) := by
  refine F.ok sc_comers (fun vs H Q E h => spV_len (fun h => h.1) h) (fun cdv A outer s H vs Q E hr h => okV (N := N_comers) rfl
  (vb_one (vs_ret (ve_ct (kcall_tuple_of rfl) cs_tuple (by rfl) T.tuple (by decide +kernel) (va_cons (vo_of (ve_fz (vf_lc (own := [("house", 2)]) rfl sc_comers.nd (vi_seq rfl (vo_of (ve_ix rfl (vo_var (pv 0)) (vo_var (pv 1)) (fun _ _ => rfl)))) (blkOk_by (own := [("house", 2)]) (N := N_comers) (sc := defScope s_comers) (by decide +kernel)) (fun _ _ _ _ _ => (vg_name (i := 2) sc_comers.nd rfl (by first | exact Or.inl rfl | exact Or.inr rfl))) (fun _ _ _ _ _ => (vts_one (vt_cmp (op_notInP rfl (hu_of hr)) os_inP (vo_var (pv 2)) (vo_of (ve_ix rfl (vo_var (pv 0)) (vo_of (ve_op op_sub os_sub (vo_var (pv 1)) (vo_of (ve_int pe_int)))) (fun _ _ => rfl))) (by rfl)))) (fun _ _ _ _ _ => (ve_var (pv 2)))))) va_nil)))) h)
theorem ok_in_both {f : Addr} {fd : FuncData} (F : Fun K "in_both" "in_both" s_in_both f fd) (T : Txt K mg) : FnOk P w K mg base CX0 1 f fd ["one", "other"] (spV (gxOf K w mg) W_in_both) := by
  refine F.ok sc_in_both (fun vs H Q E h => spV_len (fun h => h.1) h) (fun cdv A outer s H vs Q E hr h => okV (N := N_in_both) rfl
  (vb_one (vs_ret (ve_ct (kcall_tuple_of rfl) cs_tuple (by rfl) T.tuple (by decide +kernel) (va_cons (vo_of (ve_fz (vf_lc (own := [("house", 2)]) rfl sc_in_both.nd (vi_seq rfl (vo_var (pv 0))) (blkOk_by (own := [("house", 2)]) (N := N_in_both) (sc := defScope s_in_both) (by decide +kernel)) (fun _ _ _ _ _ => (vg_name (i := 2) sc_in_both.nd rfl (by first | exact Or.inl rfl | exact Or.inr rfl))) (fun _ _ _ _ _ => (vts_one (vt_cmp (op_inP rfl (hu_of hr)) os_inP (vo_var (pv 2)) (vo_var (pv 1)) (by rfl)))) (fun _ _ _ _ _ => (ve_var (pv 2)))))) va_nil)))) h)
theorem ok_lot_without {f : Addr} {oc od dV kV doc pm cdv ct an osl} (lk : K.lookup f = some ⟨oc, od, .func (PySem.W.fnOf "lot_without" "lot_without" (defArgs s_lot_without) (defBody s_lot_without) (defScope s_lot_without) dV kV doc pm an cdv ct), osl⟩) (hcd : PySem.W.codeIn K cdv "lot_without" = true) (hb : ∀ us rest : List Value, us.length = 1 → bindArgs (PySem.W.fnOf "lot_without" "lot_without" (defArgs s_lot_without) (defBody s_lot_without) (defScope s_lot_without) dV kV doc pm an cdv ct) ⟨us ++ rest, []⟩ = (newTuple rest >>= fun t => pure ((["lot"] : List Str).zip us ++ [(("others" : Str), t)]))) (T : Txt K mg) : FnR P w K mg base CX0 1 f (spV (gxOf K w mg) (starW 1 W_lot_without)) := by
  refine fun A outer s H us vs Q E hr he r h => StX.fn_star (ps := ["lot"]) (sp := spV (gxOf K w mg) W_lot_without) lk hcd sc_lot_without StX.cxUp_none hb (fun A outer s H vs Q E hr h => okV (N := N_lot_without) rfl
  (vb_one (vs_ret (ve_ct (kcall_tuple_of rfl) cs_tuple (by rfl) T.tuple (by decide +kernel) (va_cons (vo_of (ve_fz (vf_lc (own := [("house", 2)]) rfl sc_lot_without.nd (vi_seq rfl (vo_var (pv 0))) (blkOk_by (own := [("house", 2)]) (N := N_lot_without) (sc := defScope s_lot_without) (by decide +kernel)) (fun _ _ _ _ _ => (vg_name (i := 2) sc_lot_without.nd rfl (by first | exact Or.inl rfl | exact Or.inr rfl))) (fun _ _ _ _ _ => (vts_one (vt_not (vt_tru rfl (vo_of (ve_cb (kcr_any rfl rfl) cs_any (by rfl) T.any (by decide +kernel) (va_cons (vo_of (ve_fz (vf_lc (own := [("other", 3)]) rfl sc_lot_without.nd (vi_seq rfl (vo_var (pv 1))) (blkOk_by (own := [("other", 3)]) (by kernel_rfl)) (fun _ _ _ _ _ => (vg_name (i := 3) sc_lot_without.nd rfl (by first | exact Or.inl rfl | exact Or.inr rfl))) (fun _ _ _ _ _ => vts_nil) (fun _ _ _ _ _ => (ve_cmp (op_inP rfl (hu_of hr)) os_inP (vo_var (pv 2)) (vo_var (pv 3)) (by rfl)))))) va_nil))))))) (fun _ _ _ _ _ => (ve_var (pv 2)))))) va_nil)))) h) A outer s H us vs Q E hr he r (star_imp h)
theorem ok_line_from {f : Addr} {fd : FuncData} (F : Fun K "line_from" "line_from" s_line_from f fd) (T : Txt K mg) (D_lot_without : DfR P w K mg base 1 "lot_without" (spV (gxOf K w mg) (starW 1 W_lot_without))) (D_in_both : Df P w K mg base 1 "in_both" ["one", "other"] (spV (gxOf K w mg) W_in_both)) (D_comers : Df P w K mg base 1 "comers" ["course", "i"] (spV (gxOf K w mg) W_comers)) : FnOk P w K mg base CX0 2 f fd ["course", "numbers", "p", "liars", "keepers", "need"] (spV (gxOf K w mg) W_line_from) := by
  refine F.ok sc_line_from (fun vs H Q E h => spV_len (fun h => h.1) h) (fun cdv A outer s H vs Q E hr h => okV (N := N_line_from) rfl
  (vb_cons (vs_set (i := 6) sc_line_from.nd rfl (by first | exact Or.inl rfl | exact Or.inr rfl) (ve_op (op_addP rfl) os_add (vo_var (pv 2)) (vo_of (ve_fld rfl (ve_var (pv 1)) rfl))))
  (vb_cons (vs_if (vt_cmp op_ge os_ge (vo_var (pv 6)) (vo_of (ve_cb (cr_lenP rfl) cs_len (by rfl) T.len (by decide +kernel) (va_cons (vo_var (pv 0)) va_nil))) (nomark _))
  (vb_one (vs_ret (ve_tup (va_cons (vo_of (ve_fz (vf_lst va_nil))) (va_cons (vo_of (ve_fz (vf_lst va_nil))) va_nil)))))
  vb_nil)
  (vb_cons (vs_parT (is := [7, 8, 9, 10]) (vqs_cons (vq_v (ve_callR D_lot_without.ok (hr.mono (by first | decide | omega)) (by rfl) D_lot_without.m D_lot_without.kp pass0 (va_cons (vo_of (ve_ix rfl (vo_var (pv 0)) (vo_var (pv 6)) (fun _ _ => rfl))) (va_cons (vo_var (pv 4)) (va_cons (vo_var (pv 3)) va_nil))))) (vqs_cons vq_dic (vqs_cons (vq_f (vf_lst va_nil)) (vqs_cons (vq_f (vf_lst va_nil)) vqs_nil)))) (kpg_tup (K := K) (n := 4) rfl rfl (pgs_cons (pg_name (i := 7) sc_line_from.nd rfl (by first | exact Or.inl rfl | exact Or.inr rfl)) (pgs_cons (pg_name (i := 8) sc_line_from.nd rfl (by first | exact Or.inl rfl | exact Or.inr rfl)) (pgs_cons (pg_name (i := 9) sc_line_from.nd rfl (by first | exact Or.inl rfl | exact Or.inr rfl)) (pgs_cons (pg_name (i := 10) sc_line_from.nd rfl (by first | exact Or.inl rfl | exact Or.inr rfl)) pgs_nil))))))
  (vb_cons (vs_expr (ve_app rfl (pv 9) (ve_var (pv 7))))
  (vb_cons (vs_for PassesOwn.never rfl (vi_rg2 (by rfl) T.range (va_cons (vo_var (pv 6)) (va_cons (vo_of (ve_op op_sub os_sub (vo_of (ve_cb (cr_lenP rfl) cs_len (by rfl) T.len (by decide +kernel) (va_cons (vo_var (pv 0)) va_nil))) (vo_of (ve_int pe_int)))) va_nil))) (vg_name (i := 11) sc_line_from.nd rfl (by first | exact Or.inl rfl | exact Or.inr rfl))
  (vb_cons (vs_set (i := 12) sc_line_from.nd rfl (by first | exact Or.inl rfl | exact Or.inr rfl) (ve_call D_in_both.ok (hr.mono (by first | decide | omega)) (by rfl) D_in_both.m D_in_both.kp D_in_both.b .nil (fun _ _ => .nil) pass0 (va_cons (vo_var (pv 7)) (va_cons (vo_of (ve_ix rfl (vo_var (pv 0)) (vo_of (ve_op (op_addP rfl) os_add (vo_var (pv 11)) (vo_of (ve_int pe_int)))) (fun _ _ => rfl))) va_nil))))
  (vb_cons (vs_set (i := 13) sc_line_from.nd rfl (by first | exact Or.inl rfl | exact Or.inr rfl) (ve_call D_comers.ok (hr.mono (by first | decide | omega)) (by rfl) D_comers.m D_comers.kp D_comers.b .nil (fun _ _ => .nil) pass0 (va_cons (vo_var (pv 0)) (va_cons (vo_of (ve_op (op_addP rfl) os_add (vo_var (pv 11)) (vo_of (ve_int pe_int)))) va_nil))))
  (vb_cons (vs_if (vt_cmp op_ge os_ge (vo_of (ve_op (op_addP rfl) os_add (vo_of (ve_cb (cr_lenP rfl) cs_len (by rfl) T.len (by decide +kernel) (va_cons (vo_var (pv 7)) va_nil))) (vo_of (ve_cb (cr_lenP rfl) cs_len (by rfl) T.len (by decide +kernel) (va_cons (vo_of (ve_call D_in_both.ok (hr.mono (by first | decide | omega)) (by rfl) D_in_both.m D_in_both.kp D_in_both.b .nil (fun _ _ => .nil) pass0 (va_cons (vo_of (ve_ix rfl (vo_var (pv 0)) (vo_var (pv 11)) (fun _ _ => rfl))) (va_cons (vo_var (pv 3)) va_nil)))) va_nil))))) (vo_of (ve_op (op_addP rfl) os_add (vo_of (ve_op op_sub os_sub (vo_of (ve_fld rfl (ve_var (pv 1)) rfl)) (vo_var (pv 5)))) (vo_of (ve_int pe_int)))) (nomark _))
  (vb_cons (vs_expr (ve_app rfl (pv 10) (ve_var (pv 11))))
  (vb_one (vs_set (i := 12) sc_line_from.nd rfl (by first | exact Or.inl rfl | exact Or.inr rfl) (ve_op (op_addP rfl) os_add (vo_var (pv 12)) (vo_of (ve_callR D_lot_without.ok (hr.mono (by first | decide | omega)) (by rfl) D_lot_without.m D_lot_without.kp pass0 (va_cons (vo_var (pv 13)) (va_cons (vo_var (pv 4)) (va_cons (vo_var (pv 3)) (va_cons (vo_var (pv 8)) va_nil))))))))))
  (vb_one (vs_for PassesOwn.never rfl (vi_seq rfl (vo_var (pv 13))) (vg_name (i := 14) sc_line_from.nd rfl (by first | exact Or.inl rfl | exact Or.inr rfl))
  (vb_one (vs_dput (hu_of hr) (pv 8) (ve_var (pv 14)) (ve_bl pe_bl))))))
  (vb_cons (vs_set (i := 7) sc_line_from.nd rfl (by first | exact Or.inl rfl | exact Or.inr rfl) (ve_ct (kcall_tuple_of rfl) cs_tuple (by rfl) T.tuple (by decide +kernel) (va_cons (vo_of (ve_fz (vf_cb (cr_sortedP3 rfl rfl rfl) csf_sortedP (by rfl) T.sorted (by decide +kernel) (va_cons (vo_var (pv 12)) va_nil)))) va_nil)))
  (vb_one (vs_expr (ve_app rfl (pv 9) (ve_var (pv 7))))))))))
  (vb_one (vs_frz 10 (vs_frz 9 (vs_ret (ve_tup (va_cons (vo_of (ve_var (pv 9))) (va_cons (vo_of (ve_var (pv 10))) va_nil)))))))))))) h)
theorem ok_blanks {f : Addr} {fd : FuncData} (F : Fun K "blanks" "blanks" s_blanks f fd) (T : Txt K mg) (D_line_from : Df P w K mg base 2 "line_from" ["course", "numbers", "p", "liars", "keepers", "need"] (spV (gxOf K w mg) W_line_from)) : FnOk P w K mg base CX0 3 f fd ["course", "numbers", "p", "liars", "keepers", "need"] (spV (gxOf K w mg) W_blanks) := by
  refine F.ok sc_blanks (fun vs H Q E h => spV_len (fun h => h.1) h) (fun cdv A outer s H vs Q E hr h => okV (N := N_blanks) rfl
  (vb_one (vs_ret (ve_ct (kcall_tuple_of rfl) cs_tuple (by rfl) T.tuple (by decide +kernel) (va_cons (vo_of (ve_ix rfl (vo_of (ve_call D_line_from.ok (hr.mono (by first | decide | omega)) (by rfl) D_line_from.m D_line_from.kp D_line_from.b .nil (fun _ _ => .nil) pass0 (va_cons (vo_var (pv 0)) (va_cons (vo_var (pv 1)) (va_cons (vo_var (pv 2)) (va_cons (vo_var (pv 3)) (va_cons (vo_var (pv 4)) (va_cons (vo_var (pv 5)) va_nil)))))))) (vo_of (ve_int pe_int)) (fun _ _ => rfl))) va_nil)))) h)
theorem ok_open_words {f : Addr} {fd : FuncData} (F : Fun K "open_words" "open_words" s_open_words f fd) (T : Txt K mg) (D_line_from : Df P w K mg base 2 "line_from" ["course", "numbers", "p", "liars", "keepers", "need"] (spV (gxOf K w mg) W_line_from)) : FnOk P w K mg base CX0 3 f fd ["course", "numbers", "p", "liars", "keepers", "need"] (spV (gxOf K w mg) W_open_words) := by
  refine F.ok sc_open_words (fun vs H Q E h => spV_len (fun h => h.1) h) (fun cdv A outer s H vs Q E hr h => okV (N := N_open_words) rfl
  (vb_one (vs_ret (ve_ct (kcall_tuple_of rfl) cs_tuple (by rfl) T.tuple (by decide +kernel) (va_cons (vo_of (ve_ix rfl (vo_of (ve_call D_line_from.ok (hr.mono (by first | decide | omega)) (by rfl) D_line_from.m D_line_from.kp D_line_from.b .nil (fun _ _ => .nil) pass0 (va_cons (vo_var (pv 0)) (va_cons (vo_var (pv 1)) (va_cons (vo_var (pv 2)) (va_cons (vo_var (pv 3)) (va_cons (vo_var (pv 4)) (va_cons (vo_var (pv 5)) va_nil)))))))) (vo_of (ve_int pe_int)) (fun _ _ => rfl))) va_nil)))) h)
theorem ok_having_from {f : Addr} {fd : FuncData} (F : Fun K "having_from" "having_from" s_having_from f fd) (T : Txt K mg) (D_in_both : Df P w K mg base 1 "in_both" ["one", "other"] (spV (gxOf K w mg) W_in_both)) (D_lot_without : DfR P w K mg base 1 "lot_without" (spV (gxOf K w mg) (starW 1 W_lot_without))) (D_line_from : Df P w K mg base 2 "line_from" ["course", "numbers", "p", "liars", "keepers", "need"] (spV (gxOf K w mg) W_line_from)) : FnOk P w K mg base CX0 3 f fd ["course", "numbers", "p", "liars", "keepers"] (spV (gxOf K w mg) W_having_from) := by
  refine F.ok sc_having_from (fun vs H Q E h => spV_len (fun h => h.1) h) (fun cdv A outer s H vs Q E hr h => okV (N := N_having_from) rfl
  (vb_cons (vs_setLc (i := 5) (own := [("q", 8)]) rfl sc_having_from.nd rfl rfl (sw_true rfl rfl rfl (by decide +kernel)) (vi_rg2 (by rfl) T.range (va_cons (vo_var (pv 2)) (va_cons (vo_of (ve_cb (cr_minP rfl rfl (room65 hr)) cs_min (by rfl) T.min (by decide +kernel) (va_cons (vo_of (ve_op (op_addP rfl) os_add (vo_of (ve_op (op_addP rfl) os_add (vo_var (pv 2)) (vo_of (ve_fld rfl (ve_var (pv 1)) rfl)))) (vo_of (ve_int pe_int)))) (va_cons (vo_of (ve_cb (cr_lenP rfl) cs_len (by rfl) T.len (by decide +kernel) (va_cons (vo_var (pv 0)) va_nil))) va_nil)))) va_nil))) (blkOk_by (own := [("q", 8)]) (N := N_having_from) (sc := defScope s_having_from) (by decide +kernel)) (fun _ _ _ _ _ => (vg_name (i := 8) sc_having_from.nd rfl (by first | exact Or.inl rfl | exact Or.inr rfl))) (fun _ _ _ _ _ => vts_nil) (fun _ _ _ _ _ => (ve_call D_in_both.ok (hr.mono (by first | decide | omega)) (by rfl) D_in_both.m D_in_both.kp D_in_both.b .nil (fun _ _ => .nil) pass0 (va_cons (vo_of (ve_callR D_lot_without.ok (hr.mono (by first | decide | omega)) (by rfl) D_lot_without.m D_lot_without.kp pass0 (va_cons (vo_of (ve_ix rfl (vo_var (pv 0)) (vo_var (pv 8)) (fun _ _ => rfl))) (va_cons (vo_var (pv 3)) va_nil)))) (va_cons (vo_var (pv 4)) va_nil)))))
  (vb_cons (vs_for PassesOwn.never rfl (vi_enum rfl (by rfl) T.enumerate (va_cons (vo_of (ve_ix rfl (vo_of (ve_call D_line_from.ok (hr.mono (by first | decide | omega)) (by rfl) D_line_from.m D_line_from.kp D_line_from.b .nil (fun _ _ => .nil) pass0 (va_cons (vo_var (pv 0)) (va_cons (vo_var (pv 1)) (va_cons (vo_var (pv 2)) (va_cons (vo_var (pv 3)) (va_cons (vo_var (pv 4)) (va_cons (vo_of (ve_fld rfl (ve_var (pv 1)) rfl)) va_nil)))))))) (vo_of (ve_int pe_int)) (fun _ _ => rfl))) va_nil)) (vg_tup rfl rfl (vgs_cons (vg_name (i := 6) sc_having_from.nd rfl (by first | exact Or.inl rfl | exact Or.inr rfl)) (vgs_cons (vg_name (i := 7) sc_having_from.nd rfl (by first | exact Or.inl rfl | exact Or.inr rfl)) vgs_nil)))
  (vb_one (vs_if (vt_cmp op_gt os_gt (vo_var (pv 6)) (vo_of (ve_int pe_int)) (nomark _))
  (vb_one (vs_expr (ve_app rfl (pv 5) (ve_callR D_lot_without.ok (hr.mono (by first | decide | omega)) (by rfl) D_lot_without.m D_lot_without.kp pass0 (va_cons (vo_of (ve_ix rfl (vo_var (pv 0)) (vo_of (ve_op (op_addP rfl) os_add (vo_of (ve_op (op_addP rfl) os_add (vo_var (pv 2)) (vo_of (ve_fld rfl (ve_var (pv 1)) rfl)))) (vo_var (pv 6)))) (fun _ _ => rfl))) (va_cons (vo_var (pv 3)) (va_cons (vo_var (pv 7)) va_nil)))))))
  vb_nil)))
  (vb_one (vs_frz 5 (vs_ret (ve_var (pv 5))))))) h)
theorem ok_Numbers_init {f : Addr} {fd : FuncData} (F : Fun K "__init__" "Numbers.__init__" s_Numbers_init f fd) (T : Txt K mg) (D_is_number : Df P w K mg base 2 "is_number" ["value", "most"] (spV (gxOf K w mg) W_is_number)) : FnOk P w K mg base CX0 3 f fd ["self", "k", "f", "d", "m", "w1", "w2", "g"] (spN (gxOf K w mg) "Numbers" W_Numbers_init) := by
  refine F.ok sc_Numbers_init (fun vs H Q E h => spN_len (fun h => h.1) h) (fun cdv A outer s H vs Q E hr h => okN (N := N_Numbers_init) rfl
  (vb_cons (vs_if (VW.vt (vw_or (vt_not (vt_tru rfl (vo_of (ve_call D_is_number.ok (hr.mono (by first | decide | omega)) (by rfl) D_is_number.m D_is_number.kp D_is_number.b .nil (fun _ _ => .nil) pass0 (va_cons (vo_var (pv 1)) (va_cons (vo_of (ve_int (pe_glob (v := .int 12) (by rfl) T.c_MOST_COPIES ⟨_, rfl⟩))) va_nil)))))) (vw_or1 (vt_cmp (kop_eqD rfl hr.units) os_eq (vo_var (pv 1)) (vo_of (ve_int pe_int)) (nomark _)))))
  (vb_one vs_nev)
  vb_nil)
  (vb_cons (vs_if (vt_not (vt_tru rfl (vo_of (ve_call D_is_number.ok (hr.mono (by first | decide | omega)) (by rfl) D_is_number.m D_is_number.kp D_is_number.b .nil (fun _ _ => .nil) pass0 (va_cons (vo_var (pv 2)) (va_cons (vo_var (pv 1)) va_nil))))))
  (vb_one vs_nev)
  vb_nil)
  (vb_cons (vs_if (VW.vt (vw_or (vt_not (vt_tru rfl (vo_of (ve_call D_is_number.ok (hr.mono (by first | decide | omega)) (by rfl) D_is_number.m D_is_number.kp D_is_number.b .nil (fun _ _ => .nil) pass0 (va_cons (vo_var (pv 3)) (va_cons (vo_of (ve_int (pe_glob (v := .int 200) (by rfl) T.c_MOST_LAG ⟨_, rfl⟩))) va_nil)))))) (vw_or1 (vt_cmp (kop_eqD rfl hr.units) os_eq (vo_var (pv 3)) (vo_of (ve_int pe_int)) (nomark _)))))
  (vb_one vs_nev)
  vb_nil)
  (vb_cons (vs_if (VW.vt (vw_or (vt_not (vt_tru rfl (vo_of (ve_call D_is_number.ok (hr.mono (by first | decide | omega)) (by rfl) D_is_number.m D_is_number.kp D_is_number.b .nil (fun _ _ => .nil) pass0 (va_cons (vo_var (pv 4)) (va_cons (vo_of (ve_cb (cr_minP rfl rfl (room65 hr)) cs_min (by rfl) T.min (by decide +kernel) (va_cons (vo_var (pv 1)) (va_cons (vo_of (ve_int (pe_glob (v := .int 6) (by rfl) T.c_MOST_PIECES ⟨_, rfl⟩))) va_nil)))) va_nil)))))) (vw_or1 (vt_cmp (kop_eqD rfl hr.units) os_eq (vo_var (pv 4)) (vo_of (ve_int pe_int)) (nomark _)))))
  (vb_one vs_nev)
  vb_nil)
  (vb_cons (vs_for PassesOwn.never rfl (vi_enum rfl (by rfl) T.enumerate (va_cons (vo_of (ve_tup (va_cons (vo_of (ve_var (pv 5))) (va_cons (vo_of (ve_var (pv 6))) (va_cons (vo_of (ve_var (pv 7))) va_nil))))) va_nil)) (vg_tup rfl rfl (vgs_cons (vg_name (i := 8) sc_Numbers_init.nd rfl (by first | exact Or.inl rfl | exact Or.inr rfl)) (vgs_cons (vg_name (i := 9) sc_Numbers_init.nd rfl (by first | exact Or.inl rfl | exact Or.inr rfl)) vgs_nil)))
  (vb_one (vs_if (VW.vt (vw_or (vt_not (vt_tru rfl (vo_of (ve_call D_is_number.ok (hr.mono (by first | decide | omega)) (by rfl) D_is_number.m D_is_number.kp D_is_number.b .nil (fun _ _ => .nil) pass0 (va_cons (vo_var (pv 9)) (va_cons (vo_var (pv 1)) va_nil)))))) (vw_or1 (vt_cmp (kop_eqD rfl hr.units) os_eq (vo_var (pv 9)) (vo_of (ve_int pe_int)) (nomark _)))))
  (vb_one vs_nev)
  vb_nil)))
  (vb_cons (vs_fldS (c := "Numbers") rfl (T.n_Numbers_k) (pv 0) (ve_var (pv 1)) rfl)
  (vb_cons (vs_fldS (c := "Numbers") rfl (T.n_Numbers_f) (pv 0) (ve_var (pv 2)) rfl)
  (vb_cons (vs_fldS (c := "Numbers") rfl (T.n_Numbers_d) (pv 0) (ve_var (pv 3)) rfl)
  (vb_cons (vs_fldS (c := "Numbers") rfl (T.n_Numbers_m) (pv 0) (ve_var (pv 4)) rfl)
  (vb_cons (vs_fldS (c := "Numbers") rfl (T.n_Numbers_w1) (pv 0) (ve_var (pv 5)) rfl)
  (vb_cons (vs_fldS (c := "Numbers") rfl (T.n_Numbers_w2) (pv 0) (ve_var (pv 6)) rfl)
  (vb_one (vs_fldS (c := "Numbers") rfl (T.n_Numbers_g) (pv 0) (ve_var (pv 7)) rfl))))))))))))) h)
theorem ok_Gone_init {f : Addr} {fd : FuncData} (F : Fun K "__init__" "Gone.__init__" s_Gone_init f fd) (T : Txt K mg) : FnOk P w K mg base CX0 1 f fd ["self", "p", "q", "liars", "keepers"] (spN (gxOf K w mg) "Gone" W_Gone_init) := by
  refine F.ok sc_Gone_init (fun vs H Q E h => spN_len (fun h => h.1) h) (fun cdv A outer s H vs Q E hr h => okN (N := N_Gone_init) rfl
  (vb_cons (vs_fldS (c := "Gone") rfl (T.n_Gone_p) (pv 0) (ve_var (pv 1)) rfl)
  (vb_cons (vs_fldS (c := "Gone") rfl (T.n_Gone_q) (pv 0) (ve_var (pv 2)) rfl)
  (vb_cons (vs_fldS (c := "Gone") rfl (T.n_Gone_liars) (pv 0) (ve_var (pv 3)) rfl)
  (vb_one (vs_fldS (c := "Gone") rfl (T.n_Gone_keepers) (pv 0) (ve_var (pv 4)) rfl))))) h)
theorem ok_having {f : Addr} {fd : FuncData} (F : Fun K "having" "having" s_having f fd) (T : Txt K mg) (D_having_from : Df P w K mg base 3 "having_from" ["course", "numbers", "p", "liars", "keepers"] (spV (gxOf K w mg) W_having_from)) : FnOk P w K mg base CX0 4 f fd ["course", "numbers", "plan"] (spV (gxOf K w mg) W_having) := by
  refine F.ok sc_having (fun vs H Q E h => spV_len (fun h => h.1) h) (fun cdv A outer s H vs Q E hr h => okV (N := N_having) rfl
  (vb_one (vs_ret (ve_ix rfl (vo_of (ve_call D_having_from.ok (hr.mono (by first | decide | omega)) (by rfl) D_having_from.m D_having_from.kp D_having_from.b .nil (fun _ _ => .nil) pass0 (va_cons (vo_var (pv 0)) (va_cons (vo_var (pv 1)) (va_cons (vo_of (ve_fld rfl (ve_var (pv 2)) rfl)) (va_cons (vo_of (ve_fld rfl (ve_var (pv 2)) rfl)) (va_cons (vo_of (ve_fld rfl (ve_var (pv 2)) rfl)) va_nil))))))) (vo_of (ve_op op_sub os_sub (vo_of (ve_fld rfl (ve_var (pv 2)) rfl)) (vo_of (ve_fld rfl (ve_var (pv 2)) rfl)))) (fun _ _ => rfl)))) h)
theorem ok__law_pick {f : Addr} {fd : FuncData} (F : Fun K "_law_pick" "_law_pick" s__law_pick f fd) (T : Txt K mg) (D__law_draw : Df P w K mg base 1 "_law_draw" ["heap", "many"] (spV (gxOf K w mg) W__law_draw)) : FnOk P w K mg base CX0 2 f fd ["heap", "some"] (spV (gxOf K w mg) W__law_pick) := by
  refine F.ok sc__law_pick (fun vs H Q E h => spV_len (fun h => h.1) h) (fun cdv A outer s H vs Q E hr h => okV (N := N__law_pick) rfl
  (vb_one (vs_ret (ve_ix rfl (vo_var (pv 1)) (vo_of (ve_call D__law_draw.ok (hr.mono (by first | decide | omega)) (by rfl) D__law_draw.m D__law_draw.kp D__law_draw.b .nil (fun _ _ => .nil) pass0 (va_cons (vo_var (pv 0)) (va_cons (vo_of (ve_cb (cr_lenP rfl) cs_len (by rfl) T.len (by decide +kernel) (va_cons (vo_var (pv 1)) va_nil))) va_nil)))) (fun _ _ => rfl)))) h)
theorem ok__law_like_of {k : Nat} {W__law_like : WF1} {f : Addr} {fd : FuncData} (F : Fun K "_law_like" "_law_like" s__law_like f fd) (T : Txt K mg) (hk : 0 ≤ k) (D__law_like : Df P w K mg base k "_law_like" ["told", "due"] (spV (gxOf K w mg) W__law_like)) : FnOk P w K mg base CX0 (k + 1) f fd ["told", "due"] (spV (gxOf K w mg) (W__law_like_of W__law_like)) := by
  refine F.ok sc__law_like (fun vs H Q E h => spV_len (fun h => h.1) h) (fun cdv A outer s H vs Q E hr h => okV (N := N__law_like) rfl
  (vb_cons (vs_if (vt_tru rfl (vo_of (ve_isi (U := .tuple) rfl (vo_var (pv 1)) (pe_ty "tuple" (by rfl) T.tuple) (by rfl) T.isinstance)))
  (vb_one (vs_ret (ve_and (ve_isi (U := .tuple) rfl (vo_var (pv 0)) (pe_ty "tuple" (by rfl) T.tuple) (by rfl) T.isinstance) (ve_and (ve_cmp (kop_eqD rfl hr.units) os_eq (vo_of (ve_cb (cr_lenP rfl) cs_len (by rfl) T.len (by decide +kernel) (va_cons (vo_var (pv 0)) va_nil))) (vo_of (ve_cb (cr_lenP rfl) cs_len (by rfl) T.len (by decide +kernel) (va_cons (vo_var (pv 1)) va_nil))) (nomark _)) (ve_one (ve_cb (kcr_all rfl rfl) cs_all (by rfl) T.all (by decide +kernel) (va_cons (vo_of (ve_fz (vf_lc (own := [("one", 2), ("other", 3)]) rfl sc__law_like.nd (vi_zip rfl (by rfl) T.zip (va_cons (vo_var (pv 0)) (va_cons (vo_var (pv 1)) va_nil))) (blkOk_by (own := [("one", 2), ("other", 3)]) (N := N__law_like) (sc := defScope s__law_like) (by decide +kernel)) (fun _ _ _ _ _ => (vg_tup rfl rfl (vgs_cons (vg_name (i := 2) sc__law_like.nd rfl (by first | exact Or.inl rfl | exact Or.inr rfl)) (vgs_cons (vg_name (i := 3) sc__law_like.nd rfl (by first | exact Or.inl rfl | exact Or.inr rfl)) vgs_nil)))) (fun _ _ _ _ _ => vts_nil) (fun _ _ _ _ _ => (ve_call D__law_like.ok (hr.mono (by first | decide | omega)) (by rfl) D__law_like.m D__law_like.kp D__law_like.b .nil (fun _ _ => .nil) pass0 (va_cons (vo_var (pv 2)) (va_cons (vo_var (pv 3)) va_nil))))))) va_nil)))))))
  vb_nil)
  (vb_cons (vs_if (vt_cmp op_isN os_isN (vo_var (pv 1)) (vo_of (ve_non pe_non)) (nomark _))
  (vb_one (vs_ret (ve_cmp op_isN os_isN (vo_var (pv 0)) (vo_of (ve_non pe_non)) (nomark _))))
  vb_nil)
  (vb_cons (vs_if (vt_tru rfl (vo_of (ve_isi (U := .bool) rfl (vo_var (pv 1)) (pe_ty "bool" (by rfl) T.bool) (by rfl) T.isinstance)))
  (vb_one (vs_ret (ve_ifE (vt_tru rfl (vo_var (pv 1))) (ve_cmp op_isBl os_isB (vo_var (pv 0)) (vo_of (ve_bl pe_bl)) (nomark _)) (ve_cmp op_isBl os_isB (vo_var (pv 0)) (vo_of (ve_bl pe_bl)) (nomark _)))))
  vb_nil)
  (vb_cons (vs_if (vt_tru rfl (vo_of (ve_isi (U := .int) rfl (vo_var (pv 1)) (pe_ty "int" (by rfl) T.int) (by rfl) T.isinstance)))
  (vb_one (vs_ret (ve_and (ve_isi (U := .int) rfl (vo_var (pv 0)) (pe_ty "int" (by rfl) T.int) (by rfl) T.isinstance) (ve_and (ve_not (ve_isi (U := .bool) rfl (vo_var (pv 0)) (pe_ty "bool" (by rfl) T.bool) (by rfl) T.isinstance)) (ve_one (ve_cmp (kop_eqD rfl hr.units) os_eq (vo_var (pv 0)) (vo_var (pv 1)) (nomark _)))))))
  vb_nil)
  (vb_one (vs_ret (ve_and (ve_isi (U := .str) rfl (vo_var (pv 0)) (pe_ty "str" (by rfl) T.str) (by rfl) T.isinstance) (ve_and (ve_isi (U := .str) rfl (vo_var (pv 1)) (pe_ty "str" (by rfl) T.str) (by rfl) T.isinstance) (ve_one (ve_cmp (kop_eqD rfl hr.units) os_eq (vo_var (pv 0)) (vo_var (pv 1)) (nomark _))))))))))) h)
theorem ok__law_some {f : Addr} {fd : FuncData} (F : Fun K "_law_some" "_law_some" s__law_some f fd) (T : Txt K mg) (D__law_draw : Df P w K mg base 1 "_law_draw" ["heap", "many"] (spV (gxOf K w mg) W__law_draw)) : FnOk P w K mg base CX0 2 f fd ["heap", "pool", "many"] (spV (gxOf K w mg) W__law_some) := by
  refine F.ok sc__law_some (fun vs H Q E h => spV_len (fun h => h.1) h) (fun cdv A outer s H vs Q E hr h => okV (N := N__law_some) rfl
  (vb_cons (vs_par2 (i := 3) (j := 4) rfl sc__law_some.nd rfl rfl  (by decide)  rfl rfl  (vqs_cons (vq_f (vf_lc (own := [("place", 6)]) rfl sc__law_some.nd (vi_rg1 (by rfl) T.range (va_cons (vo_of (ve_cb (cr_lenP rfl) cs_len (by rfl) T.len (by decide +kernel) (va_cons (vo_var (pv 1)) va_nil))) va_nil)) (blkOk_by (own := [("place", 6)]) (N := N__law_some) (sc := defScope s__law_some) (by decide +kernel)) (fun _ _ _ _ _ => (vg_name (i := 6) sc__law_some.nd rfl (by first | exact Or.inl rfl | exact Or.inr rfl))) (fun _ _ _ _ _ => vts_nil) (fun _ _ _ _ _ => (ve_var (pv 6))))) (vqs_cons (vq_f (vf_lst va_nil)) vqs_nil)) (by rfl))
  (vb_cons (vs_for PassesOwn.never rfl (vi_rg1 (by rfl) T.range (va_cons (vo_var (pv 2)) va_nil)) (vg_name (i := 5) sc__law_some.nd rfl (by first | exact Or.inl rfl | exact Or.inr rfl))
  (vb_one (vs_expr (ve_app rfl (pv 4) (ve_popAt rfl (pv 3) (ve_call D__law_draw.ok (hr.mono (by first | decide | omega)) (by rfl) D__law_draw.m D__law_draw.kp D__law_draw.b .nil (fun _ _ => .nil) pass0 (va_cons (vo_var (pv 0)) (va_cons (vo_of (ve_cb (cr_lenP rfl) cs_len (by rfl) T.len (by decide +kernel) (va_cons (vo_var (pv 3)) va_nil))) va_nil))))))))
  (vb_one (vs_ret (ve_ct (kcall_tuple_of rfl) cs_tuple (by rfl) T.tuple (by decide +kernel) (va_cons (vo_of (ve_fz (vf_lc (own := [("place", 6)]) rfl sc__law_some.nd (vi_seq rfl (vo_of (ve_fz (vf_cb (cr_sortedP3 rfl rfl rfl) csf_sortedP (by rfl) T.sorted (by decide +kernel) (va_cons (vo_var (pv 4)) va_nil))))) (blkOk_by (own := [("place", 6)]) (N := N__law_some) (sc := defScope s__law_some) (by decide +kernel)) (fun _ _ _ _ _ => (vg_name (i := 6) sc__law_some.nd rfl (by first | exact Or.inl rfl | exact Or.inr rfl))) (fun _ _ _ _ _ => vts_nil) (fun _ _ _ _ _ => (ve_ix rfl (vo_var (pv 1)) (vo_var (pv 6)) (fun _ _ => rfl)))))) va_nil)))))) h)
theorem ok__law_course {f : Addr} {fd : FuncData} (F : Fun K "_law_course" "_law_course" s__law_course f fd) (T : Txt K mg) (D__law_some : Df P w K mg base 2 "_law_some" ["heap", "pool", "many"] (spV (gxOf K w mg) W__law_some)) (D__law_draw : Df P w K mg base 1 "_law_draw" ["heap", "many"] (spV (gxOf K w mg) W__law_draw)) : FnOk P w K mg base CX0 3 f fd ["heap", "pool", "k", "words"] (spV (gxOf K w mg) W__law_course) := by
  refine F.ok sc__law_course (fun vs H Q E h => spV_len (fun h => h.1) h) (fun cdv A outer s H vs Q E hr h => okV (N := N__law_course) rfl
  (vb_cons (vs_setF (i := 4) sc__law_course.nd rfl (by first | exact Or.inl rfl | exact Or.inr rfl) (vf_lst (va_cons (vo_of (ve_call D__law_some.ok (hr.mono (by first | decide | omega)) (by rfl) D__law_some.m D__law_some.kp D__law_some.b .nil (fun _ _ => .nil) pass0 (va_cons (vo_var (pv 0)) (va_cons (vo_var (pv 1)) (va_cons (vo_var (pv 2)) va_nil))))) va_nil)))
  (vb_cons (vs_for PassesOwn.never rfl (vi_rg1 (by rfl) T.range (va_cons (vo_var (pv 3)) va_nil)) (vg_name (i := 5) sc__law_course.nd rfl (by first | exact Or.inl rfl | exact Or.inr rfl))
  (vb_cons (vs_setLcV (i := 6) (own := [("house", 10)]) rfl sc__law_course.nd rfl rfl (sw_true rfl rfl rfl (by decide +kernel)) (vi_seq rfl (vo_var (pv 1))) (blkOk_by (own := [("house", 10)]) (N := N__law_course) (sc := defScope s__law_course) (by decide +kernel)) (fun _ _ _ _ _ => (vg_name (i := 10) sc__law_course.nd rfl (by first | exact Or.inl rfl | exact Or.inr rfl))) (fun _ _ _ _ _ => (vts_one (vt_cmp (op_notInP rfl (hu_of hr)) os_inP (vo_var (pv 10)) (vo_of (ve_ix rfl (vo_var (pv 4)) (vo_of (ve_neg (ve_int pe_int))) (fun _ _ => rfl))) (by rfl)))) (fun _ _ _ _ _ => (ve_var (pv 10))))
  (vb_cons (vs_set (i := 7) sc__law_course.nd rfl (by first | exact Or.inl rfl | exact Or.inr rfl) (ve_cb (cr_minP rfl rfl (room65 hr)) cs_min (by rfl) T.min (by decide +kernel) (va_cons (vo_of (ve_cb (cr_lenP rfl) cs_len (by rfl) T.len (by decide +kernel) (va_cons (vo_var (pv 6)) va_nil))) (va_cons (vo_var (pv 2)) (va_cons (vo_of (ve_ix rfl (vo_of (ve_fz (vf_lst (va_cons (vo_of (ve_int pe_int)) (va_cons (vo_of (ve_int pe_int)) (va_cons (vo_of (ve_int pe_int)) (va_cons (vo_of (ve_int pe_int)) (va_cons (vo_of (ve_int pe_int)) (va_cons (vo_of (ve_int pe_int)) (va_cons (vo_of (ve_var (pv 2))) (va_cons (vo_of (ve_call D__law_draw.ok (hr.mono (by first | decide | omega)) (by rfl) D__law_draw.m D__law_draw.kp D__law_draw.b .nil (fun _ _ => .nil) pass0 (va_cons (vo_var (pv 0)) (va_cons (vo_of (ve_op (op_addP rfl) os_add (vo_var (pv 2)) (vo_of (ve_int pe_int)))) va_nil)))) va_nil))))))))))) (vo_of (ve_call D__law_draw.ok (hr.mono (by first | decide | omega)) (by rfl) D__law_draw.m D__law_draw.kp D__law_draw.b .nil (fun _ _ => .nil) pass0 (va_cons (vo_var (pv 0)) (va_cons (vo_of (ve_int pe_int)) va_nil)))) (fun _ _ => rfl))) va_nil)))))
  (vb_cons (vs_par2 (i := 8) (j := 9) rfl sc__law_course.nd rfl rfl  (by decide)  rfl rfl  (vqs_cons (vq_v (ve_call D__law_some.ok (hr.mono (by first | decide | omega)) (by rfl) D__law_some.m D__law_some.kp D__law_some.b .nil (fun _ _ => .nil) pass0 (va_cons (vo_var (pv 0)) (va_cons (vo_var (pv 6)) (va_cons (vo_var (pv 7)) va_nil))))) (vqs_cons (vq_v (ve_call D__law_some.ok (hr.mono (by first | decide | omega)) (by rfl) D__law_some.m D__law_some.kp D__law_some.b .nil (fun _ _ => .nil) pass0 (va_cons (vo_var (pv 0)) (va_cons (vo_of (ve_ix rfl (vo_var (pv 4)) (vo_of (ve_neg (ve_int pe_int))) (fun _ _ => rfl))) (va_cons (vo_of (ve_op op_sub os_sub (vo_var (pv 2)) (vo_var (pv 7)))) va_nil))))) vqs_nil)) (by rfl))
  (vb_one (vs_expr (ve_app rfl (pv 4) (ve_ct (kcall_tuple_of rfl) cs_tuple (by rfl) T.tuple (by decide +kernel) (va_cons (vo_of (ve_fz (vf_cb (cr_sortedP3 rfl rfl rfl) csf_sortedP (by rfl) T.sorted (by decide +kernel) (va_cons (vo_of (ve_op (op_addP rfl) os_add (vo_var (pv 8)) (vo_var (pv 9)))) va_nil)))) va_nil)))))))))
  (vb_one (vs_ret (ve_ct (kcall_tuple_of rfl) cs_tuple (by rfl) T.tuple (by decide +kernel) (va_cons (vo_var (pv 4)) va_nil)))))) h)
theorem ok__law_line {f : Addr} {fd : FuncData} (F : Fun K "_law_line" "_law_line" s__law_line f fd) (T : Txt K mg) : FnOk P w K mg base CX0 1 f fd ["course", "d", "g", "need", "p", "liars", "keepers"] (spV (gxOf K w mg) W__law_line) := by
  refine F.ok sc__law_line (fun vs H Q E h => spV_len (fun h => h.1) h) (fun cdv A outer s H vs Q E hr h => okV (N := N__law_line) rfl
  (vb_cons (vs_set (i := 7) sc__law_line.nd rfl (by first | exact Or.inl rfl | exact Or.inr rfl) (ve_fz (vf_lc (own := [("house", 14)]) rfl sc__law_line.nd (vi_seq rfl (vo_of (ve_ix rfl (vo_var (pv 0)) (vo_of (ve_op (op_addP rfl) os_add (vo_var (pv 4)) (vo_var (pv 1)))) (fun _ _ => rfl)))) (blkOk_by (own := [("house", 14)]) (N := N__law_line) (sc := defScope s__law_line) (by decide +kernel)) (fun _ _ _ _ _ => (vg_name (i := 14) sc__law_line.nd rfl (by first | exact Or.inl rfl | exact Or.inr rfl))) (fun _ _ _ _ _ => (vts_one (VW.vt (vw_and (vt_cmp (op_notInP rfl (hu_of hr)) os_inP (vo_var (pv 14)) (vo_var (pv 6)) (by rfl)) (vw_and1 (vt_cmp (op_notInP rfl (hu_of hr)) os_inP (vo_var (pv 14)) (vo_var (pv 5)) (by rfl))))))) (fun _ _ _ _ _ => (ve_var (pv 14))))))
  (vb_cons (vs_parT (is := [8, 9, 10]) (vqs_cons (vq_f (vf_lst (va_cons (vo_of (ve_ct (kcall_tuple_of rfl) cs_tuple (by rfl) T.tuple (by decide +kernel) (va_cons (vo_var (pv 7)) va_nil))) va_nil))) (vqs_cons (vq_f (vf_lst va_nil)) (vqs_cons (vq_v (ve_op (op_addP rfl) os_add (vo_of (ve_fz (vf_ct (kcall_list_of rfl) csf_list (by rfl) T.list (by decide +kernel) (va_cons (vo_var (pv 5)) va_nil)))) (vo_of (ve_fz (vf_ct (kcall_list_of rfl) csf_list (by rfl) T.list (by decide +kernel) (va_cons (vo_var (pv 6)) va_nil)))))) vqs_nil))) (kpg_tup (K := K) (n := 3) rfl rfl (pgs_cons (pg_name (i := 8) sc__law_line.nd rfl (by first | exact Or.inl rfl | exact Or.inr rfl)) (pgs_cons (pg_name (i := 9) sc__law_line.nd rfl (by first | exact Or.inl rfl | exact Or.inr rfl)) (pgs_cons (pg_name (i := 10) sc__law_line.nd rfl (by first | exact Or.inl rfl | exact Or.inr rfl)) pgs_nil)))))
  (vb_cons (vs_for PassesOwn.never rfl (vi_rg2 (by rfl) T.range (va_cons (vo_of (ve_op (op_addP rfl) os_add (vo_var (pv 4)) (vo_var (pv 1)))) (va_cons (vo_of (ve_op op_sub os_sub (vo_of (ve_cb (cr_lenP rfl) cs_len (by rfl) T.len (by decide +kernel) (va_cons (vo_var (pv 0)) va_nil))) (vo_of (ve_int pe_int)))) va_nil))) (vg_name (i := 11) sc__law_line.nd rfl (by first | exact Or.inl rfl | exact Or.inr rfl))
  (vb_cons (vs_setLcV (i := 12) (own := [("house", 14)]) rfl sc__law_line.nd rfl rfl (sw_true rfl rfl rfl (by decide +kernel)) (vi_seq rfl (vo_of (ve_ix rfl (vo_var (pv 0)) (vo_of (ve_op (op_addP rfl) os_add (vo_var (pv 11)) (vo_of (ve_int pe_int)))) (fun _ _ => rfl)))) (blkOk_by (own := [("house", 14)]) (N := N__law_line) (sc := defScope s__law_line) (by decide +kernel)) (fun _ _ _ _ _ => (vg_name (i := 14) sc__law_line.nd rfl (by first | exact Or.inl rfl | exact Or.inr rfl))) (fun _ _ _ _ _ => (vts_one (vt_cmp (op_notInP rfl (hu_of hr)) os_inP (vo_var (pv 14)) (vo_of (ve_ix rfl (vo_var (pv 0)) (vo_var (pv 11)) (fun _ _ => rfl))) (by rfl)))) (fun _ _ _ _ _ => (ve_var (pv 14))))
  (vb_cons (vs_setLcV (i := 13) (own := [("house", 14)]) rfl sc__law_line.nd rfl rfl (sw_true rfl rfl rfl (by decide +kernel)) (vi_seq rfl (vo_of (ve_ix rfl (vo_var (pv 0)) (vo_of (ve_op (op_addP rfl) os_add (vo_var (pv 11)) (vo_of (ve_int pe_int)))) (fun _ _ => rfl)))) (blkOk_by (own := [("house", 14)]) (N := N__law_line) (sc := defScope s__law_line) (by decide +kernel)) (fun _ _ _ _ _ => (vg_name (i := 14) sc__law_line.nd rfl (by first | exact Or.inl rfl | exact Or.inr rfl))) (fun _ _ _ _ _ => (vts_one (vt_cmp (op_inP rfl (hu_of hr)) os_inP (vo_var (pv 14)) (vo_var (pv 7)) (by rfl)))) (fun _ _ _ _ _ => (ve_var (pv 14))))
  (vb_cons (vs_if (vt_cmp op_gt os_gt (vo_of (ve_op (op_addP rfl) os_add (vo_of (ve_cb (cr_lenP rfl) cs_len (by rfl) T.len (by decide +kernel) (va_cons (vo_var (pv 7)) va_nil))) (vo_of (ve_cb (kcr_sum rfl rfl) cs_sum (by rfl) T.sum (by decide +kernel) (va_cons (vo_of (ve_fz (vf_lc (own := [("house", 14)]) rfl sc__law_line.nd (vi_seq rfl (vo_of (ve_ix rfl (vo_var (pv 0)) (vo_var (pv 11)) (fun _ _ => rfl)))) (blkOk_by (own := [("house", 14)]) (N := N__law_line) (sc := defScope s__law_line) (by decide +kernel)) (fun _ _ _ _ _ => (vg_name (i := 14) sc__law_line.nd rfl (by first | exact Or.inl rfl | exact Or.inr rfl))) (fun _ _ _ _ _ => vts_nil) (fun _ _ _ _ _ => (ve_ct (call_int1) cs_int (by rfl) T.int (by decide +kernel) (va_cons (vo_of (ve_cmp (op_inP rfl (hu_of hr)) os_inP (vo_var (pv 14)) (vo_var (pv 5)) (by rfl))) va_nil)))))) va_nil))))) (vo_of (ve_op op_sub os_sub (vo_var (pv 2)) (vo_var (pv 3)))) (nomark _))
  (vb_cons (vs_expr (ve_app rfl (pv 9) (ve_var (pv 11))))
  (vb_one (vs_set (i := 13) sc__law_line.nd rfl (by first | exact Or.inl rfl | exact Or.inr rfl) (ve_op (op_addP rfl) os_add (vo_var (pv 13)) (vo_of (ve_fz (vf_lc (own := [("house", 14)]) rfl sc__law_line.nd (vi_seq rfl (vo_var (pv 12))) (blkOk_by (own := [("house", 14)]) (N := N__law_line) (sc := defScope s__law_line) (by decide +kernel)) (fun _ _ _ _ _ => (vg_name (i := 14) sc__law_line.nd rfl (by first | exact Or.inl rfl | exact Or.inr rfl))) (fun _ _ _ _ _ => (vts_one (vt_cmp (op_notInP rfl (hu_of hr)) os_inP (vo_var (pv 14)) (vo_var (pv 10)) (by rfl)))) (fun _ _ _ _ _ => (ve_var (pv 14))))))))))
  (vb_one (vs_set (i := 10) sc__law_line.nd rfl (by first | exact Or.inl rfl | exact Or.inr rfl) (ve_op (op_addP rfl) os_add (vo_var (pv 10)) (vo_var (pv 12))))))
  (vb_cons (vs_set (i := 7) sc__law_line.nd rfl (by first | exact Or.inl rfl | exact Or.inr rfl) (ve_fz (vf_cb (cr_sortedP3 rfl rfl rfl) csf_sortedP (by rfl) T.sorted (by decide +kernel) (va_cons (vo_var (pv 13)) va_nil))))
  (vb_one (vs_expr (ve_app rfl (pv 8) (ve_ct (kcall_tuple_of rfl) cs_tuple (by rfl) T.tuple (by decide +kernel) (va_cons (vo_var (pv 7)) va_nil))))))))))
  (vb_one (vs_frz 9 (vs_frz 8 (vs_ret (ve_tup (va_cons (vo_of (ve_var (pv 8))) (va_cons (vo_of (ve_var (pv 9))) va_nil)))))))))) h)
theorem ok__law_made {f : Addr} {fd : FuncData} (F : Fun K "_law_made" "_law_made" s__law_made f fd) (T : Txt K mg) (D__law_some : Df P w K mg base 2 "_law_some" ["heap", "pool", "many"] (spV (gxOf K w mg) W__law_some)) (D__law_course : Df P w K mg base 3 "_law_course" ["heap", "pool", "k", "words"] (spV (gxOf K w mg) W__law_course)) (D__law_draw : Df P w K mg base 1 "_law_draw" ["heap", "many"] (spV (gxOf K w mg) W__law_draw)) (D__law_pick : Df P w K mg base 2 "_law_pick" ["heap", "some"] (spV (gxOf K w mg) W__law_pick)) : FnOk P w K mg base CX0 4 f fd ["heap"] (spV (gxOf K w mg) W__law_made) := by
  refine F.ok sc__law_made (fun vs H Q E h => spV_len (fun h => h.1) h) (fun cdv A outer s H vs Q E hr h => okV (N := N__law_made) rfl
  (vb_cons (vs_set (i := 1) sc__law_made.nd rfl (by first | exact Or.inl rfl | exact Or.inr rfl) (ve_op (op_addP rfl) os_add (vo_of (ve_int pe_int)) (vo_of (ve_call D__law_draw.ok (hr.mono (by first | decide | omega)) (by rfl) D__law_draw.m D__law_draw.kp D__law_draw.b .nil (fun _ _ => .nil) pass0 (va_cons (vo_var (pv 0)) (va_cons (vo_of (ve_int pe_int)) va_nil))))))
  (vb_cons (vs_set (i := 2) sc__law_made.nd rfl (by first | exact Or.inl rfl | exact Or.inr rfl) (ve_call D__law_some.ok (hr.mono (by first | decide | omega)) (by rfl) D__law_some.m D__law_some.kp D__law_some.b .nil (fun _ _ => .nil) pass0 (va_cons (vo_var (pv 0)) (va_cons (vo_of (ve_fz (vf_lc (own := [("house", 9)]) rfl sc__law_made.nd (vi_rg1 (by rfl) T.range (va_cons (vo_of (ve_int pe_int)) va_nil)) (blkOk_by (own := [("house", 9)]) (N := N__law_made) (sc := defScope s__law_made) (by decide +kernel)) (fun _ _ _ _ _ => (vg_name (i := 9) sc__law_made.nd rfl (by first | exact Or.inl rfl | exact Or.inr rfl))) (fun _ _ _ _ _ => vts_nil) (fun _ _ _ _ _ => (ve_var (pv 9)))))) (va_cons (vo_of (ve_cb (cr_minP rfl rfl (room65 hr)) cs_min (by rfl) T.min (by decide +kernel) (va_cons (vo_of (ve_int pe_int)) (va_cons (vo_of (ve_op (op_addP rfl) os_add (vo_var (pv 1)) (vo_of (ve_call D__law_draw.ok (hr.mono (by first | decide | omega)) (by rfl) D__law_draw.m D__law_draw.kp D__law_draw.b .nil (fun _ _ => .nil) pass0 (va_cons (vo_var (pv 0)) (va_cons (vo_of (ve_int pe_int)) va_nil)))))) va_nil)))) va_nil)))))
  (vb_cons (vs_set (i := 3) sc__law_made.nd rfl (by first | exact Or.inl rfl | exact Or.inr rfl) (ve_call D__law_course.ok (hr.mono (by first | decide | omega)) (by rfl) D__law_course.m D__law_course.kp D__law_course.b .nil (fun _ _ => .nil) pass0 (va_cons (vo_var (pv 0)) (va_cons (vo_var (pv 2)) (va_cons (vo_var (pv 1)) (va_cons (vo_of (ve_call D__law_pick.ok (hr.mono (by first | decide | omega)) (by rfl) D__law_pick.m D__law_pick.kp D__law_pick.b .nil (fun _ _ => .nil) pass0 (va_cons (vo_var (pv 0)) (va_cons (vo_of (ve_fz (vf_lst (va_cons (vo_of (ve_int pe_int)) (va_cons (vo_of (ve_int pe_int)) (va_cons (vo_of (ve_int pe_int)) (va_cons (vo_of (ve_int pe_int)) (va_cons (vo_of (ve_int pe_int)) (va_cons (vo_of (ve_int pe_int)) (va_cons (vo_of (ve_int pe_int)) (va_cons (vo_of (ve_int pe_int)) va_nil))))))))))) va_nil)))) va_nil))))))
  (vb_cons (vs_set (i := 4) sc__law_made.nd rfl (by first | exact Or.inl rfl | exact Or.inr rfl) (ve_cb (cr_minP rfl rfl (room65 hr)) cs_min (by rfl) T.min (by decide +kernel) (va_cons (vo_of (ve_op op_sub os_sub (vo_of (ve_cb (cr_lenP rfl) cs_len (by rfl) T.len (by decide +kernel) (va_cons (vo_var (pv 3)) va_nil))) (vo_of (ve_int pe_int)))) (va_cons (vo_of (ve_op (op_addP rfl) os_add (vo_of (ve_int pe_int)) (vo_of (ve_call D__law_pick.ok (hr.mono (by first | decide | omega)) (by rfl) D__law_pick.m D__law_pick.kp D__law_pick.b .nil (fun _ _ => .nil) pass0 (va_cons (vo_var (pv 0)) (va_cons (vo_of (ve_fz (vf_lst (va_cons (vo_of (ve_int pe_int)) (va_cons (vo_of (ve_int pe_int)) (va_cons (vo_of (ve_int pe_int)) (va_cons (vo_of (ve_call D__law_draw.ok (hr.mono (by first | decide | omega)) (by rfl) D__law_draw.m D__law_draw.kp D__law_draw.b .nil (fun _ _ => .nil) pass0 (va_cons (vo_var (pv 0)) (va_cons (vo_of (ve_int pe_int)) va_nil)))) (va_cons (vo_of (ve_cb (cr_minP rfl rfl (room65 hr)) cs_min (by rfl) T.min (by decide +kernel) (va_cons (vo_of (ve_int pe_int)) (va_cons (vo_of (ve_call D__law_draw.ok (hr.mono (by first | decide | omega)) (by rfl) D__law_draw.m D__law_draw.kp D__law_draw.b .nil (fun _ _ => .nil) pass0 (va_cons (vo_var (pv 0)) (va_cons (vo_of (ve_cb (cr_lenP rfl) cs_len (by rfl) T.len (by decide +kernel) (va_cons (vo_var (pv 3)) va_nil))) va_nil)))) va_nil)))) va_nil)))))))) va_nil)))))) va_nil))))
  (vb_cons (vs_set (i := 5) sc__law_made.nd rfl (by first | exact Or.inl rfl | exact Or.inr rfl) (ve_call D__law_draw.ok (hr.mono (by first | decide | omega)) (by rfl) D__law_draw.m D__law_draw.kp D__law_draw.b .nil (fun _ _ => .nil) pass0 (va_cons (vo_var (pv 0)) (va_cons (vo_of (ve_op op_sub os_sub (vo_of (ve_cb (cr_lenP rfl) cs_len (by rfl) T.len (by decide +kernel) (va_cons (vo_var (pv 3)) va_nil))) (vo_var (pv 4)))) va_nil))))
  (vb_cons (vs_set (i := 6) sc__law_made.nd rfl (by first | exact Or.inl rfl | exact Or.inr rfl) (ve_fz (vf_cb (cr_sortedP3 rfl rfl rfl) csf_sortedP (by rfl) T.sorted (by decide +kernel) (va_cons (vo_of (ve_ct (kcr_set rfl rfl rfl) cs_set (by rfl) T.set (by decide +kernel) (va_cons (vo_of (ve_fz (vf_cb (kcr_sumL rfl rfl) csf_sumL (by rfl) T.sum (by decide +kernel) (va_cons (vo_of (ve_fz (vf_lc (own := [("lot", 10)]) rfl sc__law_made.nd (vi_seq rfl (vo_var (pv 3))) (blkOk_by (own := [("lot", 10)]) (N := N__law_made) (sc := defScope s__law_made) (by decide +kernel)) (fun _ _ _ _ _ => (vg_name (i := 10) sc__law_made.nd rfl (by first | exact Or.inl rfl | exact Or.inr rfl))) (fun _ _ _ _ _ => vts_nil) (fun _ _ _ _ _ => (ve_fz (vf_ct (kcall_list_of rfl) csf_list (by rfl) T.list (by decide +kernel) (va_cons (vo_var (pv 10)) va_nil))))))) (va_cons (vo_of (ve_fz (vf_lst va_nil))) va_nil))))) va_nil))) va_nil))))
  (vb_cons (vs_set (i := 7) sc__law_made.nd rfl (by first | exact Or.inl rfl | exact Or.inr rfl) (ve_call D__law_some.ok (hr.mono (by first | decide | omega)) (by rfl) D__law_some.m D__law_some.kp D__law_some.b .nil (fun _ _ => .nil) pass0 (va_cons (vo_var (pv 0)) (va_cons (vo_var (pv 6)) (va_cons (vo_of (ve_call D__law_draw.ok (hr.mono (by first | decide | omega)) (by rfl) D__law_draw.m D__law_draw.kp D__law_draw.b .nil (fun _ _ => .nil) pass0 (va_cons (vo_var (pv 0)) (va_cons (vo_of (ve_op (op_addP rfl) os_add (vo_of (ve_cb (cr_minP rfl rfl (room65 hr)) cs_min (by rfl) T.min (by decide +kernel) (va_cons (vo_of (ve_int pe_int)) (va_cons (vo_of (ve_cb (cr_lenP rfl) cs_len (by rfl) T.len (by decide +kernel) (va_cons (vo_var (pv 6)) va_nil))) va_nil)))) (vo_of (ve_int pe_int)))) va_nil)))) va_nil)))))
  (vb_cons (vs_set (i := 8) sc__law_made.nd rfl (by first | exact Or.inl rfl | exact Or.inr rfl) (ve_call D__law_some.ok (hr.mono (by first | decide | omega)) (by rfl) D__law_some.m D__law_some.kp D__law_some.b .nil (fun _ _ => .nil) pass0 (va_cons (vo_var (pv 0)) (va_cons (vo_of (ve_ix rfl (vo_var (pv 3)) (vo_var (pv 5)) (fun _ _ => rfl))) (va_cons (vo_of (ve_op (op_addP rfl) os_add (vo_of (ve_int pe_int)) (vo_of (ve_call D__law_draw.ok (hr.mono (by first | decide | omega)) (by rfl) D__law_draw.m D__law_draw.kp D__law_draw.b .nil (fun _ _ => .nil) pass0 (va_cons (vo_var (pv 0)) (va_cons (vo_var (pv 1)) va_nil)))))) va_nil)))))
  (vb_one (vs_ret (ve_tup (va_cons (vo_of (ve_var (pv 1))) (va_cons (vo_of (ve_var (pv 2))) (va_cons (vo_of (ve_var (pv 3))) (va_cons (vo_of (ve_var (pv 4))) (va_cons (vo_of (ve_var (pv 5))) (va_cons (vo_of (ve_var (pv 7))) (va_cons (vo_of (ve_var (pv 8))) va_nil)))))))))))))))))) h)
theorem ok__law_asked {f : Addr} {fd : FuncData} (F : Fun K "_law_asked" "_law_asked" s__law_asked f fd) (T : Txt K mg) (D__law_line : Df P w K mg base 1 "_law_line" ["course", "d", "g", "need", "p", "liars", "keepers"] (spV (gxOf K w mg) W__law_line)) (D__law_like : Df P w K mg base 4 "_law_like" ["told", "due"] (spV (gxOf K w mg) W__law_like)) (D_open_words : Df P w K mg base 3 "open_words" ["course", "numbers", "p", "liars", "keepers", "need"] (spV (gxOf K w mg) W_open_words)) (D_blanks : Df P w K mg base 3 "blanks" ["course", "numbers", "p", "liars", "keepers", "need"] (spV (gxOf K w mg) W_blanks)) {fdI_Numbers : FuncData} (GI_Numbers : FnOk P w K mg base CX0 3 T.fI_Numbers fdI_Numbers ["self", "k", "f", "d", "m", "w1", "w2", "g"] (spN (gxOf K w mg) "Numbers" W_Numbers_init)) (bI_Numbers : Binds K fdI_Numbers ["self", "k", "f", "d", "m", "w1", "w2", "g"] []) : FnOk P w K mg base CX0 5 f fd ["course", "k", "d", "g", "need", "p", "liars", "keepers"] (spV (gxOf K w mg) W__law_asked) := by
  refine F.ok sc__law_asked (fun vs H Q E h => spV_len (fun h => h.1) h) (fun cdv A outer s H vs Q E hr h => okV (N := N__law_asked) rfl
  (vb_cons (vs_set (i := 8) sc__law_asked.nd rfl (by first | exact Or.inl rfl | exact Or.inr rfl) (ve_make rfl T.m_Numbers T.cl_Numbers T.mk_Numbers GI_Numbers (hr.mono (by first | decide | omega)) (by rfl) T.m_Numbers bI_Numbers .nil (fun _ _ => .nil) pass0 (va_cons (vo_of (ve_var (pv 1))) (va_cons (vo_of (ve_var (pv 1))) (va_cons (vo_of (ve_var (pv 2))) (va_cons (vo_of (ve_int pe_int)) (va_cons (vo_of (ve_int pe_int)) (va_cons (vo_of (ve_cb (cr_lenP rfl) cs_len (by rfl) T.len (by decide +kernel) (va_cons (vo_var (pv 7)) va_nil))) (va_cons (vo_of (ve_var (pv 3))) va_nil)))))))))
  (vb_cons (vs_if (vt_cmp op_ge os_ge (vo_of (ve_op (op_addP rfl) os_add (vo_var (pv 5)) (vo_var (pv 2)))) (vo_of (ve_cb (cr_lenP rfl) cs_len (by rfl) T.len (by decide +kernel) (va_cons (vo_var (pv 0)) va_nil))) (nomark _))
  (vb_one (vs_ret (ve_and (ve_call D__law_like.ok (hr.mono (by first | decide | omega)) (by rfl) D__law_like.m D__law_like.kp D__law_like.b .nil (fun _ _ => .nil) pass0 (va_cons (vo_of (ve_call D_blanks.ok (hr.mono (by first | decide | omega)) (by rfl) D_blanks.m D_blanks.kp D_blanks.b .nil (fun _ _ => .nil) pass0 (va_cons (vo_var (pv 0)) (va_cons (vo_var (pv 8)) (va_cons (vo_var (pv 5)) (va_cons (vo_var (pv 6)) (va_cons (vo_var (pv 7)) (va_cons (vo_var (pv 4)) va_nil)))))))) (va_cons (vo_of (ve_tup va_nil)) va_nil))) (ve_one (ve_call D__law_like.ok (hr.mono (by first | decide | omega)) (by rfl) D__law_like.m D__law_like.kp D__law_like.b .nil (fun _ _ => .nil) pass0 (va_cons (vo_of (ve_call D_open_words.ok (hr.mono (by first | decide | omega)) (by rfl) D_open_words.m D_open_words.kp D_open_words.b .nil (fun _ _ => .nil) pass0 (va_cons (vo_var (pv 0)) (va_cons (vo_var (pv 8)) (va_cons (vo_var (pv 5)) (va_cons (vo_var (pv 6)) (va_cons (vo_var (pv 7)) (va_cons (vo_var (pv 4)) va_nil)))))))) (va_cons (vo_of (ve_tup va_nil)) va_nil)))))))
  vb_nil)
  (vb_cons (vs_asg (ve_call D__law_line.ok (hr.mono (by first | decide | omega)) (by rfl) D__law_line.m D__law_line.kp D__law_line.b .nil (fun _ _ => .nil) pass0 (va_cons (vo_var (pv 0)) (va_cons (vo_var (pv 2)) (va_cons (vo_var (pv 3)) (va_cons (vo_var (pv 4)) (va_cons (vo_var (pv 5)) (va_cons (vo_var (pv 6)) (va_cons (vo_var (pv 7)) va_nil)))))))) (vg_tup rfl rfl (vgs_cons (vg_name (i := 9) sc__law_asked.nd rfl (by first | exact Or.inl rfl | exact Or.inr rfl)) (vgs_cons (vg_name (i := 10) sc__law_asked.nd rfl (by first | exact Or.inl rfl | exact Or.inr rfl)) vgs_nil))))
  (vb_cons (vs_if (vt_not (vt_tru rfl (vo_of (ve_call D__law_like.ok (hr.mono (by first | decide | omega)) (by rfl) D__law_like.m D__law_like.kp D__law_like.b .nil (fun _ _ => .nil) pass0 (va_cons (vo_of (ve_call D_blanks.ok (hr.mono (by first | decide | omega)) (by rfl) D_blanks.m D_blanks.kp D_blanks.b .nil (fun _ _ => .nil) pass0 (va_cons (vo_var (pv 0)) (va_cons (vo_var (pv 8)) (va_cons (vo_var (pv 5)) (va_cons (vo_var (pv 6)) (va_cons (vo_var (pv 7)) (va_cons (vo_var (pv 4)) va_nil)))))))) (va_cons (vo_of (ve_ct (kcall_tuple_of rfl) cs_tuple (by rfl) T.tuple (by decide +kernel) (va_cons (vo_var (pv 9)) va_nil))) va_nil))))))
  (vb_one (vs_ret (ve_bl pe_bl)))
  vb_nil)
  (vb_one (vs_ret (ve_call D__law_like.ok (hr.mono (by first | decide | omega)) (by rfl) D__law_like.m D__law_like.kp D__law_like.b .nil (fun _ _ => .nil) pass0 (va_cons (vo_of (ve_call D_open_words.ok (hr.mono (by first | decide | omega)) (by rfl) D_open_words.m D_open_words.kp D_open_words.b .nil (fun _ _ => .nil) pass0 (va_cons (vo_var (pv 0)) (va_cons (vo_var (pv 8)) (va_cons (vo_var (pv 5)) (va_cons (vo_var (pv 6)) (va_cons (vo_var (pv 7)) (va_cons (vo_var (pv 4)) va_nil)))))))) (va_cons (vo_of (ve_ct (kcall_tuple_of rfl) cs_tuple (by rfl) T.tuple (by decide +kernel) (va_cons (vo_var (pv 10)) va_nil))) va_nil))))))))) h)
theorem ok__law_due_having {f : Addr} {fd : FuncData} (F : Fun K "_law_due_having" "_law_due_having" s__law_due_having f fd) (T : Txt K mg) (D__law_line : Df P w K mg base 1 "_law_line" ["course", "d", "g", "need", "p", "liars", "keepers"] (spV (gxOf K w mg) W__law_line)) : FnOk P w K mg base CX0 2 f fd ["course", "d", "g", "m", "p", "q", "liars", "keepers"] (spV (gxOf K w mg) W__law_due_having) := by
  refine F.ok sc__law_due_having (fun vs H Q E h => spV_len (fun h => h.1) h) (fun cdv A outer s H vs Q E hr h => okV (N := N__law_due_having) rfl
  (vb_cons (vs_setLcV (i := 8) (own := [("house", 10)]) rfl sc__law_due_having.nd rfl rfl (sw_true rfl rfl rfl (by decide +kernel)) (vi_seq rfl (vo_of (ve_ix rfl (vo_var (pv 0)) (vo_var (pv 5)) (fun _ _ => rfl)))) (blkOk_by (own := [("house", 10)]) (N := N__law_due_having) (sc := defScope s__law_due_having) (by decide +kernel)) (fun _ _ _ _ _ => (vg_name (i := 10) sc__law_due_having.nd rfl (by first | exact Or.inl rfl | exact Or.inr rfl))) (fun _ _ _ _ _ => (vts_one (vt_cmp (op_notInP rfl (hu_of hr)) os_inP (vo_var (pv 10)) (vo_var (pv 6)) (by rfl)))) (fun _ _ _ _ _ => (ve_var (pv 10))))
  (vb_cons (vs_if (vt_cmp op_le os_le (vo_var (pv 5)) (vo_of (ve_op (op_addP rfl) os_add (vo_var (pv 4)) (vo_var (pv 1)))) (nomark _))
  (vb_one (vs_ret (ve_fz (vf_lc (own := [("house", 10)]) rfl sc__law_due_having.nd (vi_seq rfl (vo_var (pv 8))) (blkOk_by (own := [("house", 10)]) (N := N__law_due_having) (sc := defScope s__law_due_having) (by decide +kernel)) (fun _ _ _ _ _ => (vg_name (i := 10) sc__law_due_having.nd rfl (by first | exact Or.inl rfl | exact Or.inr rfl))) (fun _ _ _ _ _ => (vts_one (vt_cmp (op_inP rfl (hu_of hr)) os_inP (vo_var (pv 10)) (vo_var (pv 7)) (by rfl)))) (fun _ _ _ _ _ => (ve_var (pv 10)))))))
  vb_nil)
  (vb_cons (vs_set (i := 9) sc__law_due_having.nd rfl (by first | exact Or.inl rfl | exact Or.inr rfl) (ve_ix rfl (vo_of (ve_ix rfl (vo_of (ve_call D__law_line.ok (hr.mono (by first | decide | omega)) (by rfl) D__law_line.m D__law_line.kp D__law_line.b .nil (fun _ _ => .nil) pass0 (va_cons (vo_var (pv 0)) (va_cons (vo_var (pv 1)) (va_cons (vo_var (pv 2)) (va_cons (vo_var (pv 3)) (va_cons (vo_var (pv 4)) (va_cons (vo_var (pv 6)) (va_cons (vo_var (pv 7)) va_nil))))))))) (vo_of (ve_int pe_int)) (fun _ _ => rfl))) (vo_of (ve_op op_sub os_sub (vo_of (ve_op op_sub os_sub (vo_var (pv 5)) (vo_var (pv 4)))) (vo_var (pv 1)))) (fun _ _ => rfl)))
  (vb_one (vs_ret (ve_fz (vf_lc (own := [("house", 10)]) rfl sc__law_due_having.nd (vi_seq rfl (vo_var (pv 8))) (blkOk_by (own := [("house", 10)]) (N := N__law_due_having) (sc := defScope s__law_due_having) (by decide +kernel)) (fun _ _ _ _ _ => (vg_name (i := 10) sc__law_due_having.nd rfl (by first | exact Or.inl rfl | exact Or.inr rfl))) (fun _ _ _ _ _ => (vts_one (vt_cmp (op_notInP rfl (hu_of hr)) os_inP (vo_var (pv 10)) (vo_var (pv 9)) (by rfl)))) (fun _ _ _ _ _ => (ve_var (pv 10)))))))))) h)
theorem ok__law_asked_having {f : Addr} {fd : FuncData} (F : Fun K "_law_asked_having" "_law_asked_having" s__law_asked_having f fd) (T : Txt K mg) (D__law_draw : Df P w K mg base 1 "_law_draw" ["heap", "many"] (spV (gxOf K w mg) W__law_draw)) (D_having : Df P w K mg base 4 "having" ["course", "numbers", "plan"] (spV (gxOf K w mg) W_having)) (D__law_like : Df P w K mg base 4 "_law_like" ["told", "due"] (spV (gxOf K w mg) W__law_like)) (D__law_due_having : Df P w K mg base 2 "_law_due_having" ["course", "d", "g", "m", "p", "q", "liars", "keepers"] (spV (gxOf K w mg) W__law_due_having)) {fdI_Numbers : FuncData} (GI_Numbers : FnOk P w K mg base CX0 3 T.fI_Numbers fdI_Numbers ["self", "k", "f", "d", "m", "w1", "w2", "g"] (spN (gxOf K w mg) "Numbers" W_Numbers_init)) (bI_Numbers : Binds K fdI_Numbers ["self", "k", "f", "d", "m", "w1", "w2", "g"] []) {fdI_Gone : FuncData} (GI_Gone : FnOk P w K mg base CX0 1 T.fI_Gone fdI_Gone ["self", "p", "q", "liars", "keepers"] (spN (gxOf K w mg) "Gone" W_Gone_init)) (bI_Gone : Binds K fdI_Gone ["self", "p", "q", "liars", "keepers"] []) : FnOk P w K mg base CX0 5 f fd ["heap", "course", "k", "d", "g", "p", "liars", "keepers"] (spV (gxOf K w mg) W__law_asked_having) := by
  refine F.ok sc__law_asked_having (fun vs H Q E h => spV_len (fun h => h.1) h) (fun cdv A outer s H vs Q E hr h => okV (N := N__law_asked_having) rfl
  (vb_cons (vs_set (i := 8) sc__law_asked_having.nd rfl (by first | exact Or.inl rfl | exact Or.inr rfl) (ve_op (op_addP rfl) os_add (vo_of (ve_int pe_int)) (vo_of (ve_call D__law_draw.ok (hr.mono (by first | decide | omega)) (by rfl) D__law_draw.m D__law_draw.kp D__law_draw.b .nil (fun _ _ => .nil) pass0 (va_cons (vo_var (pv 0)) (va_cons (vo_of (ve_cb (cr_minP rfl rfl (room65 hr)) cs_min (by rfl) T.min (by decide +kernel) (va_cons (vo_of (ve_int pe_int)) (va_cons (vo_var (pv 2)) va_nil)))) va_nil))))))
  (vb_cons (vs_parT (is := [9, 10]) (vqs_cons (vq_v (ve_make rfl T.m_Numbers T.cl_Numbers T.mk_Numbers GI_Numbers (hr.mono (by first | decide | omega)) (by rfl) T.m_Numbers bI_Numbers .nil (fun _ _ => .nil) pass0 (va_cons (vo_of (ve_var (pv 2))) (va_cons (vo_of (ve_var (pv 2))) (va_cons (vo_of (ve_var (pv 3))) (va_cons (vo_of (ve_var (pv 8))) (va_cons (vo_of (ve_op (op_addP rfl) os_add (vo_of (ve_int pe_int)) (vo_of (ve_call D__law_draw.ok (hr.mono (by first | decide | omega)) (by rfl) D__law_draw.m D__law_draw.kp D__law_draw.b .nil (fun _ _ => .nil) pass0 (va_cons (vo_var (pv 0)) (va_cons (vo_var (pv 2)) va_nil)))))) (va_cons (vo_of (ve_cb (cr_lenP rfl) cs_len (by rfl) T.len (by decide +kernel) (va_cons (vo_var (pv 7)) va_nil))) (va_cons (vo_of (ve_var (pv 4))) va_nil))))))))) (vqs_cons (vq_v (ve_non pe_non)) vqs_nil)) (kpg_tup (K := K) (n := 2) rfl rfl (pgs_cons (pg_name (i := 9) sc__law_asked_having.nd rfl (by first | exact Or.inl rfl | exact Or.inr rfl)) (pgs_cons (pg_name (i := 10) sc__law_asked_having.nd rfl (by first | exact Or.inl rfl | exact Or.inr rfl)) pgs_nil))))
  (vb_cons (vs_for PassesOwn.never rfl (vi_seq rfl (vo_of (ve_fz (vf_lst (va_cons (vo_of (ve_var (pv 5))) (va_cons (vo_of (ve_op (op_addP rfl) os_add (vo_var (pv 5)) (vo_of (ve_int pe_int)))) (va_cons (vo_of (ve_op (op_addP rfl) os_add (vo_var (pv 5)) (vo_var (pv 3)))) (va_cons (vo_of (ve_op (op_addP rfl) os_add (vo_of (ve_op (op_addP rfl) os_add (vo_var (pv 5)) (vo_var (pv 3)))) (vo_of (ve_int pe_int)))) (va_cons (vo_of (ve_op (op_addP rfl) os_add (vo_of (ve_op (op_addP rfl) os_add (vo_var (pv 5)) (vo_var (pv 3)))) (vo_of (ve_int pe_int)))) (va_cons (vo_of (ve_op op_sub os_sub (vo_of (ve_cb (cr_lenP rfl) cs_len (by rfl) T.len (by decide +kernel) (va_cons (vo_var (pv 1)) va_nil))) (vo_of (ve_int pe_int)))) (va_cons (vo_of (ve_op (op_addP rfl) os_add (vo_var (pv 5)) (vo_of (ve_call D__law_draw.ok (hr.mono (by first | decide | omega)) (by rfl) D__law_draw.m D__law_draw.kp D__law_draw.b .nil (fun _ _ => .nil) pass0 (va_cons (vo_var (pv 0)) (va_cons (vo_of (ve_op op_sub os_sub (vo_of (ve_cb (cr_lenP rfl) cs_len (by rfl) T.len (by decide +kernel) (va_cons (vo_var (pv 1)) va_nil))) (vo_var (pv 5)))) va_nil)))))) va_nil))))))))))) (vg_name (i := 11) sc__law_asked_having.nd rfl (by first | exact Or.inl rfl | exact Or.inr rfl))
  (vb_one (vs_if (vt_cmp op_lt os_lt (vo_var (pv 11)) (vo_of (ve_cb (cr_lenP rfl) cs_len (by rfl) T.len (by decide +kernel) (va_cons (vo_var (pv 1)) va_nil))) (nomark _))
  (vb_cons (vs_set (i := 12) sc__law_asked_having.nd rfl (by first | exact Or.inl rfl | exact Or.inr rfl) (ve_call D_having.ok (hr.mono (by first | decide | omega)) (by rfl) D_having.m D_having.kp D_having.b .nil (fun _ _ => .nil) pass0 (va_cons (vo_var (pv 1)) (va_cons (vo_var (pv 9)) (va_cons (vo_of (ve_make rfl T.m_Gone T.cl_Gone T.mk_Gone GI_Gone (hr.mono (by first | decide | omega)) (by rfl) T.m_Gone bI_Gone .nil (fun _ _ => .nil) pass0 (va_cons (vo_of (ve_var (pv 5))) (va_cons (vo_of (ve_var (pv 11))) (va_cons (vo_of (ve_var (pv 6))) (va_cons (vo_of (ve_var (pv 7))) va_nil)))))) va_nil)))))
  (vb_one (vs_if (vt_not (vt_tru rfl (vo_of (ve_call D__law_like.ok (hr.mono (by first | decide | omega)) (by rfl) D__law_like.m D__law_like.kp D__law_like.b .nil (fun _ _ => .nil) pass0 (va_cons (vo_var (pv 12)) (va_cons (vo_of (ve_ct (kcall_tuple_of rfl) cs_tuple (by rfl) T.tuple (by decide +kernel) (va_cons (vo_of (ve_call D__law_due_having.ok (hr.mono (by first | decide | omega)) (by rfl) D__law_due_having.m D__law_due_having.kp D__law_due_having.b .nil (fun _ _ => .nil) pass0 (va_cons (vo_var (pv 1)) (va_cons (vo_var (pv 3)) (va_cons (vo_var (pv 4)) (va_cons (vo_var (pv 8)) (va_cons (vo_var (pv 5)) (va_cons (vo_var (pv 11)) (va_cons (vo_var (pv 6)) (va_cons (vo_var (pv 7)) va_nil)))))))))) va_nil))) va_nil))))))
  (vb_one (vs_ret (ve_bl pe_bl)))
  vb_nil)))
  vb_nil)))
  (vb_cons (vs_for PassesOwn.never rfl (vi_rg2 (by rfl) T.range (va_cons (vo_of (ve_int pe_int)) (va_cons (vo_of (ve_op (op_addP rfl) os_add (vo_of (ve_cb (cr_minP rfl rfl (room65 hr)) cs_min (by rfl) T.min (by decide +kernel) (va_cons (vo_of (ve_int pe_int)) (va_cons (vo_var (pv 2)) va_nil)))) (vo_of (ve_int pe_int)))) va_nil))) (vg_name (i := 13) sc__law_asked_having.nd rfl (by first | exact Or.inl rfl | exact Or.inr rfl))
  (vb_cons (vs_set (i := 14) sc__law_asked_having.nd rfl (by first | exact Or.inl rfl | exact Or.inr rfl) (ve_make rfl T.m_Numbers T.cl_Numbers T.mk_Numbers GI_Numbers (hr.mono (by first | decide | omega)) (by rfl) T.m_Numbers bI_Numbers .nil (fun _ _ => .nil) pass0 (va_cons (vo_of (ve_var (pv 2))) (va_cons (vo_of (ve_var (pv 2))) (va_cons (vo_of (ve_var (pv 3))) (va_cons (vo_of (ve_var (pv 13))) (va_cons (vo_of (ve_int pe_int)) (va_cons (vo_of (ve_cb (cr_lenP rfl) cs_len (by rfl) T.len (by decide +kernel) (va_cons (vo_var (pv 7)) va_nil))) (va_cons (vo_of (ve_var (pv 4))) va_nil)))))))))
  (vb_cons (vs_set (i := 12) sc__law_asked_having.nd rfl (by first | exact Or.inl rfl | exact Or.inr rfl) (ve_call D_having.ok (hr.mono (by first | decide | omega)) (by rfl) D_having.m D_having.kp D_having.b .nil (fun _ _ => .nil) pass0 (va_cons (vo_var (pv 1)) (va_cons (vo_var (pv 14)) (va_cons (vo_of (ve_make rfl T.m_Gone T.cl_Gone T.mk_Gone GI_Gone (hr.mono (by first | decide | omega)) (by rfl) T.m_Gone bI_Gone .nil (fun _ _ => .nil) pass0 (va_cons (vo_of (ve_var (pv 5))) (va_cons (vo_of (ve_op op_sub os_sub (vo_of (ve_cb (cr_lenP rfl) cs_len (by rfl) T.len (by decide +kernel) (va_cons (vo_var (pv 1)) va_nil))) (vo_of (ve_int pe_int)))) (va_cons (vo_of (ve_var (pv 6))) (va_cons (vo_of (ve_var (pv 7))) va_nil)))))) va_nil)))))
  (vb_cons (vs_if (VW.vt (vw_and (vt_cmp op_notN os_notN (vo_var (pv 10)) (vo_of (ve_non pe_non)) (nomark _)) (vw_and1 (vt_not (vt_tru rfl (vo_of (ve_cb (kcr_all rfl rfl) cs_all (by rfl) T.all (by decide +kernel) (va_cons (vo_of (ve_fz (vf_lc (own := [("house", 15)]) rfl sc__law_asked_having.nd (vi_seq rfl (vo_var (pv 12))) (blkOk_by (own := [("house", 15)]) (N := N__law_asked_having) (sc := defScope s__law_asked_having) (by decide +kernel)) (fun _ _ _ _ _ => (vg_name (i := 15) sc__law_asked_having.nd rfl (by first | exact Or.inl rfl | exact Or.inr rfl))) (fun _ _ _ _ _ => vts_nil) (fun _ _ _ _ _ => (ve_cmp (op_inP rfl (hu_of hr)) os_inP (vo_var (pv 15)) (vo_var (pv 10)) (by rfl)))))) va_nil))))))))
  (vb_one (vs_ret (ve_bl pe_bl)))
  vb_nil)
  (vb_one (vs_set (i := 10) sc__law_asked_having.nd rfl (by first | exact Or.inl rfl | exact Or.inr rfl) (ve_var (pv 12))))))))
  (vb_one (vs_ret (ve_bl pe_bl))))))) h)
theorem ok__law_asked_more {f : Addr} {fd : FuncData} (F : Fun K "_law_asked_more" "_law_asked_more" s__law_asked_more f fd) (T : Txt K mg) (D_blanks : Df P w K mg base 3 "blanks" ["course", "numbers", "p", "liars", "keepers", "need"] (spV (gxOf K w mg) W_blanks)) (D__law_like : Df P w K mg base 4 "_law_like" ["told", "due"] (spV (gxOf K w mg) W__law_like)) (D__law_line : Df P w K mg base 1 "_law_line" ["course", "d", "g", "need", "p", "liars", "keepers"] (spV (gxOf K w mg) W__law_line)) (D__law_pick : Df P w K mg base 2 "_law_pick" ["heap", "some"] (spV (gxOf K w mg) W__law_pick)) {fdI_Numbers : FuncData} (GI_Numbers : FnOk P w K mg base CX0 3 T.fI_Numbers fdI_Numbers ["self", "k", "f", "d", "m", "w1", "w2", "g"] (spN (gxOf K w mg) "Numbers" W_Numbers_init)) (bI_Numbers : Binds K fdI_Numbers ["self", "k", "f", "d", "m", "w1", "w2", "g"] []) : FnOk P w K mg base CX0 5 f fd ["heap", "course", "k", "d", "g", "need", "p", "liars", "keepers", "pool"] (spV (gxOf K w mg) W__law_asked_more) := by
  refine F.ok sc__law_asked_more (fun vs H Q E h => spV_len (fun h => h.1) h) (fun cdv A outer s H vs Q E hr h => okV (N := N__law_asked_more) rfl
  (vb_cons (vs_set (i := 10) sc__law_asked_more.nd rfl (by first | exact Or.inl rfl | exact Or.inr rfl) (ve_make rfl T.m_Numbers T.cl_Numbers T.mk_Numbers GI_Numbers (hr.mono (by first | decide | omega)) (by rfl) T.m_Numbers bI_Numbers .nil (fun _ _ => .nil) pass0 (va_cons (vo_of (ve_var (pv 2))) (va_cons (vo_of (ve_var (pv 2))) (va_cons (vo_of (ve_var (pv 3))) (va_cons (vo_of (ve_int pe_int)) (va_cons (vo_of (ve_int pe_int)) (va_cons (vo_of (ve_cb (cr_lenP rfl) cs_len (by rfl) T.len (by decide +kernel) (va_cons (vo_var (pv 8)) va_nil))) (va_cons (vo_of (ve_var (pv 4))) va_nil)))))))))
  (vb_cons (vs_set (i := 11) sc__law_asked_more.nd rfl (by first | exact Or.inl rfl | exact Or.inr rfl) (ve_ct (kcall_tuple_of rfl) cs_tuple (by rfl) T.tuple (by decide +kernel) (va_cons (vo_of (ve_fz (vf_cb (cr_sortedP3 rfl rfl rfl) csf_sortedP (by rfl) T.sorted (by decide +kernel) (va_cons (vo_of (ve_ct (kcr_set rfl rfl rfl) cs_set (by rfl) T.set (by decide +kernel) (va_cons (vo_of (ve_op (op_addP rfl) os_add (vo_var (pv 7)) (vo_of (ve_tup (va_cons (vo_of (ve_call D__law_pick.ok (hr.mono (by first | decide | omega)) (by rfl) D__law_pick.m D__law_pick.kp D__law_pick.b .nil (fun _ _ => .nil) pass0 (va_cons (vo_var (pv 0)) (va_cons (vo_var (pv 9)) va_nil)))) va_nil))))) va_nil))) va_nil)))) va_nil)))
  (vb_cons (vs_parT (is := [12, 13]) (vqs_cons (vq_v (ve_call D_blanks.ok (hr.mono (by first | decide | omega)) (by rfl) D_blanks.m D_blanks.kp D_blanks.b .nil (fun _ _ => .nil) pass0 (va_cons (vo_var (pv 1)) (va_cons (vo_var (pv 10)) (va_cons (vo_var (pv 6)) (va_cons (vo_var (pv 7)) (va_cons (vo_var (pv 8)) (va_cons (vo_var (pv 5)) va_nil)))))))) (vqs_cons (vq_v (ve_call D_blanks.ok (hr.mono (by first | decide | omega)) (by rfl) D_blanks.m D_blanks.kp D_blanks.b .nil (fun _ _ => .nil) pass0 (va_cons (vo_var (pv 1)) (va_cons (vo_var (pv 10)) (va_cons (vo_var (pv 6)) (va_cons (vo_var (pv 11)) (va_cons (vo_var (pv 8)) (va_cons (vo_var (pv 5)) va_nil)))))))) vqs_nil)) (kpg_tup (K := K) (n := 2) rfl rfl (pgs_cons (pg_name (i := 12) sc__law_asked_more.nd rfl (by first | exact Or.inl rfl | exact Or.inr rfl)) (pgs_cons (pg_name (i := 13) sc__law_asked_more.nd rfl (by first | exact Or.inl rfl | exact Or.inr rfl)) pgs_nil))))
  (vb_cons (vs_set (i := 14) sc__law_asked_more.nd rfl (by first | exact Or.inl rfl | exact Or.inr rfl) (ve_call D_blanks.ok (hr.mono (by first | decide | omega)) (by rfl) D_blanks.m D_blanks.kp D_blanks.b .nil (fun _ _ => .nil) pass0 (va_cons (vo_var (pv 1)) (va_cons (vo_var (pv 10)) (va_cons (vo_var (pv 6)) (va_cons (vo_var (pv 7)) (va_cons (vo_var (pv 8)) (va_cons (vo_of (ve_op (op_addP rfl) os_add (vo_var (pv 5)) (vo_of (ve_int pe_int)))) va_nil))))))))
  (vb_cons (vs_if (vt_not (vt_tru rfl (vo_of (ve_call D__law_like.ok (hr.mono (by first | decide | omega)) (by rfl) D__law_like.m D__law_like.kp D__law_like.b .nil (fun _ _ => .nil) pass0 (va_cons (vo_var (pv 13)) (va_cons (vo_of (ve_ct (kcall_tuple_of rfl) cs_tuple (by rfl) T.tuple (by decide +kernel) (va_cons (vo_of (ve_ix rfl (vo_of (ve_call D__law_line.ok (hr.mono (by first | decide | omega)) (by rfl) D__law_line.m D__law_line.kp D__law_line.b .nil (fun _ _ => .nil) pass0 (va_cons (vo_var (pv 1)) (va_cons (vo_var (pv 3)) (va_cons (vo_var (pv 4)) (va_cons (vo_var (pv 5)) (va_cons (vo_var (pv 6)) (va_cons (vo_var (pv 11)) (va_cons (vo_var (pv 8)) va_nil))))))))) (vo_of (ve_int pe_int)) (fun _ _ => rfl))) va_nil))) va_nil))))))
  (vb_one (vs_ret (ve_bl pe_bl)))
  vb_nil)
  (vb_cons (vs_for PassesOwn.never rfl (vi_enum rfl (by rfl) T.enumerate (va_cons (vo_var (pv 12)) va_nil)) (vg_tup rfl rfl (vgs_cons (vg_name (i := 15) sc__law_asked_more.nd rfl (by first | exact Or.inl rfl | exact Or.inr rfl)) (vgs_cons (vg_name (i := 16) sc__law_asked_more.nd rfl (by first | exact Or.inl rfl | exact Or.inr rfl)) vgs_nil)))
  (vb_cons (vs_setLcV (i := 17) (own := [("house", 18)]) rfl sc__law_asked_more.nd rfl rfl (sw_true rfl rfl rfl (by decide +kernel)) (vi_seq rfl (vo_of (ve_ix rfl (vo_var (pv 1)) (vo_of (ve_op (op_addP rfl) os_add (vo_of (ve_op (op_addP rfl) os_add (vo_var (pv 6)) (vo_var (pv 3)))) (vo_var (pv 15)))) (fun _ _ => rfl)))) (blkOk_by (own := [("house", 18)]) (N := N__law_asked_more) (sc := defScope s__law_asked_more) (by decide +kernel)) (fun _ _ _ _ _ => (vg_name (i := 18) sc__law_asked_more.nd rfl (by first | exact Or.inl rfl | exact Or.inr rfl))) (fun _ _ _ _ _ => (vts_one (VW.vt (vw_or (vt_cmp (op_inP rfl (hu_of hr)) os_inP (vo_var (pv 18)) (vo_var (pv 7)) (by rfl)) (vw_or1 (vt_cmp (op_inP rfl (hu_of hr)) os_inP (vo_var (pv 18)) (vo_var (pv 16)) (by rfl))))))) (fun _ _ _ _ _ => (ve_var (pv 18))))
  (vb_one (vs_if (VW.vt (vw_or (vt_not (vt_tru rfl (vo_of (ve_cb (kcr_all rfl rfl) cs_all (by rfl) T.all (by decide +kernel) (va_cons (vo_of (ve_fz (vf_lc (own := [("house", 18)]) rfl sc__law_asked_more.nd (vi_seq rfl (vo_var (pv 17))) (blkOk_by (own := [("house", 18)]) (N := N__law_asked_more) (sc := defScope s__law_asked_more) (by decide +kernel)) (fun _ _ _ _ _ => (vg_name (i := 18) sc__law_asked_more.nd rfl (by first | exact Or.inl rfl | exact Or.inr rfl))) (fun _ _ _ _ _ => vts_nil) (fun _ _ _ _ _ => (ve_or (ve_cmp (op_inP rfl (hu_of hr)) os_inP (vo_var (pv 18)) (vo_var (pv 11)) (by rfl)) (ve_one (ve_cmp (op_inP rfl (hu_of hr)) os_inP (vo_var (pv 18)) (vo_of (ve_ix rfl (vo_var (pv 13)) (vo_var (pv 15)) (fun _ _ => rfl))) (by rfl)))))))) va_nil))))) (vw_or1 (vt_not (vt_tru rfl (vo_of (ve_cb (kcr_all rfl rfl) cs_all (by rfl) T.all (by decide +kernel) (va_cons (vo_of (ve_fz (vf_lc (own := [("house", 18)]) rfl sc__law_asked_more.nd (vi_seq rfl (vo_var (pv 16))) (blkOk_by (own := [("house", 18)]) (N := N__law_asked_more) (sc := defScope s__law_asked_more) (by decide +kernel)) (fun _ _ _ _ _ => (vg_name (i := 18) sc__law_asked_more.nd rfl (by first | exact Or.inl rfl | exact Or.inr rfl))) (fun _ _ _ _ _ => vts_nil) (fun _ _ _ _ _ => (ve_cmp (op_inP rfl (hu_of hr)) os_inP (vo_var (pv 18)) (vo_of (ve_ix rfl (vo_var (pv 14)) (vo_var (pv 15)) (fun _ _ => rfl))) (by rfl)))))) va_nil))))))))
  (vb_one (vs_ret (ve_bl pe_bl)))
  vb_nil))))
  (vb_one (vs_ret (ve_bl pe_bl))))))))) h)
theorem ok_law {f : Addr} {fd : FuncData} (F : Fun K "law" "law" s_law f fd) (T : Txt K mg) (D__law_heap : Df P w K mg base 1 "_law_heap" ["script"] (spV (gxOf K w mg) W__law_heap)) (D__law_made : Df P w K mg base 4 "_law_made" ["heap"] (spV (gxOf K w mg) W__law_made)) (D__law_line : Df P w K mg base 1 "_law_line" ["course", "d", "g", "need", "p", "liars", "keepers"] (spV (gxOf K w mg) W__law_line)) (D__law_draw : Df P w K mg base 1 "_law_draw" ["heap", "many"] (spV (gxOf K w mg) W__law_draw)) (D__law_pick : Df P w K mg base 2 "_law_pick" ["heap", "some"] (spV (gxOf K w mg) W__law_pick)) (D__law_asked : Df P w K mg base 5 "_law_asked" ["course", "k", "d", "g", "need", "p", "liars", "keepers"] (spV (gxOf K w mg) W__law_asked)) (D__law_asked_having : Df P w K mg base 5 "_law_asked_having" ["heap", "course", "k", "d", "g", "p", "liars", "keepers"] (spV (gxOf K w mg) W__law_asked_having)) (D__law_asked_more : Df P w K mg base 5 "_law_asked_more" ["heap", "course", "k", "d", "g", "need", "p", "liars", "keepers", "pool"] (spV (gxOf K w mg) W__law_asked_more)) (D__law_some : Df P w K mg base 2 "_law_some" ["heap", "pool", "many"] (spV (gxOf K w mg) W__law_some)) : FnOk P w K mg base CX0 6 f fd ["script"] (spV (gxOf K w mg) W_law) := by
  refine F.ok sc_law (fun vs H Q E h => spV_len (fun h => h.1) h) (fun cdv A outer s H vs Q E hr h => okV (N := N_law) rfl
  (vb_cons (vs_set (i := 1) sc_law.nd rfl (by first | exact Or.inl rfl | exact Or.inr rfl) (ve_call D__law_heap.ok (hr.mono (by first | decide | omega)) (by rfl) D__law_heap.m D__law_heap.kp D__law_heap.b .nil (fun _ _ => .nil) pass0 (va_cons (vo_var (pv 0)) va_nil)))
  (vb_cons (vs_asg (ve_call D__law_made.ok (hr.mono (by first | decide | omega)) (by rfl) D__law_made.m D__law_made.kp D__law_made.b .nil (fun _ _ => .nil) pass0 (va_cons (vo_var (pv 1)) va_nil)) (vg_tup rfl rfl (vgs_cons (vg_name (i := 2) sc_law.nd rfl (by first | exact Or.inl rfl | exact Or.inr rfl)) (vgs_cons (vg_name (i := 3) sc_law.nd rfl (by first | exact Or.inl rfl | exact Or.inr rfl)) (vgs_cons (vg_name (i := 4) sc_law.nd rfl (by first | exact Or.inl rfl | exact Or.inr rfl)) (vgs_cons (vg_name (i := 5) sc_law.nd rfl (by first | exact Or.inl rfl | exact Or.inr rfl)) (vgs_cons (vg_name (i := 6) sc_law.nd rfl (by first | exact Or.inl rfl | exact Or.inr rfl)) (vgs_cons (vg_name (i := 7) sc_law.nd rfl (by first | exact Or.inl rfl | exact Or.inr rfl)) (vgs_cons (vg_name (i := 8) sc_law.nd rfl (by first | exact Or.inl rfl | exact Or.inr rfl)) vgs_nil)))))))))
  (vb_cons (vs_set (i := 9) sc_law.nd rfl (by first | exact Or.inl rfl | exact Or.inr rfl) (ve_cb (cr_minP rfl rfl (room65 hr)) cs_min (by rfl) T.min (by decide +kernel) (va_cons (vo_of (ve_int pe_int)) (va_cons (vo_of (ve_op (op_addP rfl) os_add (vo_of (ve_op op_sub os_sub (vo_of (ve_cb (cr_lenP rfl) cs_len (by rfl) T.len (by decide +kernel) (va_cons (vo_var (pv 4)) va_nil))) (vo_var (pv 6)))) (vo_of (ve_call D__law_draw.ok (hr.mono (by first | decide | omega)) (by rfl) D__law_draw.m D__law_draw.kp D__law_draw.b .nil (fun _ _ => .nil) pass0 (va_cons (vo_var (pv 1)) (va_cons (vo_of (ve_int pe_int)) va_nil)))))) va_nil))))
  (vb_cons (vs_if (VW.vt (vw_and (vt_cmp op_ge os_ge (vo_of (ve_op (op_addP rfl) os_add (vo_var (pv 6)) (vo_var (pv 9)))) (vo_of (ve_cb (cr_lenP rfl) cs_len (by rfl) T.len (by decide +kernel) (va_cons (vo_var (pv 4)) va_nil))) (nomark _)) (vw_and1 (vt_not (vt_tru rfl (vo_of (ve_call D__law_asked.ok (hr.mono (by first | decide | omega)) (by rfl) D__law_asked.m D__law_asked.kp D__law_asked.b .nil (fun _ _ => .nil) pass0 (va_cons (vo_var (pv 4)) (va_cons (vo_var (pv 2)) (va_cons (vo_var (pv 9)) (va_cons (vo_of (ve_op (op_addP rfl) os_add (vo_of (ve_int pe_int)) (vo_of (ve_call D__law_draw.ok (hr.mono (by first | decide | omega)) (by rfl) D__law_draw.m D__law_draw.kp D__law_draw.b .nil (fun _ _ => .nil) pass0 (va_cons (vo_var (pv 1)) (va_cons (vo_var (pv 2)) va_nil)))))) (va_cons (vo_of (ve_int pe_int)) (va_cons (vo_var (pv 6)) (va_cons (vo_var (pv 7)) (va_cons (vo_var (pv 8)) va_nil)))))))))))))))
  (vb_one (vs_ret (ve_bl pe_bl)))
  vb_nil)
  (vb_cons (vs_set (i := 10) sc_law.nd rfl (by first | exact Or.inl rfl | exact Or.inr rfl) (ve_fz (vf_lst (va_cons (vo_of (ve_tup (va_cons (vo_of (ve_op (op_addP rfl) os_add (vo_of (ve_int pe_int)) (vo_of (ve_call D__law_draw.ok (hr.mono (by first | decide | omega)) (by rfl) D__law_draw.m D__law_draw.kp D__law_draw.b .nil (fun _ _ => .nil) pass0 (va_cons (vo_var (pv 1)) (va_cons (vo_var (pv 2)) va_nil)))))) (va_cons (vo_of (ve_int pe_int)) va_nil)))) va_nil))))
  (vb_cons (vs_for PassesOwn.never rfl (vi_seq rfl (vo_of (ve_fz (vf_lst (va_cons (vo_of (ve_op (op_addP rfl) os_add (vo_of (ve_int pe_int)) (vo_of (ve_call D__law_draw.ok (hr.mono (by first | decide | omega)) (by rfl) D__law_draw.m D__law_draw.kp D__law_draw.b .nil (fun _ _ => .nil) pass0 (va_cons (vo_var (pv 1)) (va_cons (vo_var (pv 2)) va_nil)))))) (va_cons (vo_of (ve_var (pv 2))) va_nil)))))) (vg_name (i := 11) sc_law.nd rfl (by first | exact Or.inl rfl | exact Or.inr rfl))
  (vb_cons (vs_set (i := 12) sc_law.nd rfl (by first | exact Or.inl rfl | exact Or.inr rfl) (ve_op (op_addP rfl) os_add (vo_of (ve_int pe_int)) (vo_of (ve_call D__law_draw.ok (hr.mono (by first | decide | omega)) (by rfl) D__law_draw.m D__law_draw.kp D__law_draw.b .nil (fun _ _ => .nil) pass0 (va_cons (vo_var (pv 1)) (va_cons (vo_of (ve_int pe_int)) va_nil))))))
  (vb_cons (vs_asg (ve_call D__law_line.ok (hr.mono (by first | decide | omega)) (by rfl) D__law_line.m D__law_line.kp D__law_line.b .nil (fun _ _ => .nil) pass0 (va_cons (vo_var (pv 4)) (va_cons (vo_var (pv 5)) (va_cons (vo_var (pv 11)) (va_cons (vo_var (pv 12)) (va_cons (vo_var (pv 6)) (va_cons (vo_var (pv 7)) (va_cons (vo_var (pv 8)) va_nil)))))))) (vg_tup rfl rfl (vgs_cons (vg_name (i := 13) sc_law.nd rfl (by first | exact Or.inl rfl | exact Or.inr rfl)) (vgs_cons (vg_name (i := 14) sc_law.nd rfl (by first | exact Or.inl rfl | exact Or.inr rfl)) vgs_nil))))
  (vb_cons (vs_set (i := 15) sc_law.nd rfl (by first | exact Or.inl rfl | exact Or.inr rfl) (ve_call D__law_draw.ok (hr.mono (by first | decide | omega)) (by rfl) D__law_draw.m D__law_draw.kp D__law_draw.b .nil (fun _ _ => .nil) pass0 (va_cons (vo_var (pv 1)) (va_cons (vo_of (ve_cb (cr_lenP rfl) cs_len (by rfl) T.len (by decide +kernel) (va_cons (vo_var (pv 13)) va_nil))) va_nil))))
  (vb_cons (vs_set (i := 16) sc_law.nd rfl (by first | exact Or.inl rfl | exact Or.inr rfl) (ve_op (op_addP rfl) os_add (vo_of (ve_cb (cr_lenP rfl) cs_len (by rfl) T.len (by decide +kernel) (va_cons (vo_of (ve_ix rfl (vo_var (pv 13)) (vo_var (pv 15)) (fun _ _ => rfl))) va_nil))) (vo_of (ve_cb (kcr_sum rfl rfl) cs_sum (by rfl) T.sum (by decide +kernel) (va_cons (vo_of (ve_fz (vf_lc (own := [("house", 17)]) rfl sc_law.nd (vi_seq rfl (vo_of (ve_ix rfl (vo_var (pv 4)) (vo_of (ve_op (op_addP rfl) os_add (vo_of (ve_op (op_addP rfl) os_add (vo_var (pv 6)) (vo_var (pv 5)))) (vo_var (pv 15)))) (fun _ _ => rfl)))) (blkOk_by (own := [("house", 17)]) (N := N_law) (sc := defScope s_law) (by decide +kernel)) (fun _ _ _ _ _ => (vg_name (i := 17) sc_law.nd rfl (by first | exact Or.inl rfl | exact Or.inr rfl))) (fun _ _ _ _ _ => vts_nil) (fun _ _ _ _ _ => (ve_ct (call_int1) cs_int (by rfl) T.int (by decide +kernel) (va_cons (vo_of (ve_cmp (op_inP rfl (hu_of hr)) os_inP (vo_var (pv 17)) (vo_var (pv 7)) (by rfl))) va_nil)))))) va_nil)))))
  (vb_one (vs_set (i := 10) sc_law.nd rfl (by first | exact Or.inl rfl | exact Or.inr rfl) (ve_op (op_addP rfl) os_add (vo_var (pv 10)) (vo_of (ve_fz (vf_lst (va_cons (vo_of (ve_tup (va_cons (vo_of (ve_var (pv 16))) (va_cons (vo_of (ve_int pe_int)) va_nil)))) (va_cons (vo_of (ve_tup (va_cons (vo_of (ve_op (op_addP rfl) os_add (vo_var (pv 16)) (vo_of (ve_int pe_int)))) (va_cons (vo_of (ve_int pe_int)) va_nil)))) (va_cons (vo_of (ve_tup (va_cons (vo_of (ve_op op_sub os_sub (vo_of (ve_op (op_addP rfl) os_add (vo_var (pv 16)) (vo_var (pv 12)))) (vo_of (ve_int pe_int)))) (va_cons (vo_of (ve_var (pv 12))) va_nil)))) (va_cons (vo_of (ve_tup (va_cons (vo_of (ve_op (op_addP rfl) os_add (vo_var (pv 16)) (vo_var (pv 12)))) (va_cons (vo_of (ve_var (pv 12))) va_nil)))) (va_cons (vo_of (ve_tup (va_cons (vo_of (ve_op (op_addP rfl) os_add (vo_of (ve_op (op_addP rfl) os_add (vo_var (pv 16)) (vo_var (pv 12)))) (vo_of (ve_int pe_int)))) (va_cons (vo_of (ve_var (pv 12))) va_nil)))) va_nil))))))))))))))))
  (vb_cons (vs_if (vt_cmp op_gt os_gt (vo_of (ve_cb (cr_lenP rfl) cs_len (by rfl) T.len (by decide +kernel) (va_cons (vo_var (pv 4)) va_nil))) (vo_of (ve_int pe_int)) (nomark _))
  (vb_cons (vs_asg (ve_call D__law_pick.ok (hr.mono (by first | decide | omega)) (by rfl) D__law_pick.m D__law_pick.kp D__law_pick.b .nil (fun _ _ => .nil) pass0 (va_cons (vo_var (pv 1)) (va_cons (vo_of (ve_fz (vf_lc (own := [("one", 18)]) rfl sc_law.nd (vi_seq rfl (vo_var (pv 10))) (blkOk_by (own := [("one", 18)]) (N := N_law) (sc := defScope s_law) (by decide +kernel)) (fun _ _ _ _ _ => (vg_name (i := 18) sc_law.nd rfl (by first | exact Or.inl rfl | exact Or.inr rfl))) (fun _ _ _ _ _ => (vts_one (VW.vt (vw_and (vt_cmp op_le os_le (vo_of (ve_ix rfl (vo_var (pv 18)) (vo_of (ve_int pe_int)) (fun _ _ => rfl))) (vo_var (pv 2)) (nomark _)) (vw_and1 (vt_cmp op_gt os_gt (vo_of (ve_ix rfl (vo_var (pv 18)) (vo_of (ve_int pe_int)) (fun _ _ => rfl))) (vo_of (ve_int pe_int)) (nomark _))))))) (fun _ _ _ _ _ => (ve_var (pv 18)))))) va_nil))) (vg_tup rfl rfl (vgs_cons (vg_name (i := 11) sc_law.nd rfl (by first | exact Or.inl rfl | exact Or.inr rfl)) (vgs_cons (vg_name (i := 12) sc_law.nd rfl (by first | exact Or.inl rfl | exact Or.inr rfl)) vgs_nil))))
  (vb_one (vs_ret (ve_call D__law_asked.ok (hr.mono (by first | decide | omega)) (by rfl) D__law_asked.m D__law_asked.kp D__law_asked.b .nil (fun _ _ => .nil) pass0 (va_cons (vo_var (pv 4)) (va_cons (vo_var (pv 2)) (va_cons (vo_var (pv 5)) (va_cons (vo_var (pv 11)) (va_cons (vo_var (pv 12)) (va_cons (vo_var (pv 6)) (va_cons (vo_var (pv 7)) (va_cons (vo_var (pv 8)) va_nil))))))))))))
  vb_nil)
  (vb_cons (vs_for PassesOwn.never rfl (vi_seq rfl (vo_var (pv 10))) (vg_tup rfl rfl (vgs_cons (vg_name (i := 11) sc_law.nd rfl (by first | exact Or.inl rfl | exact Or.inr rfl)) (vgs_cons (vg_name (i := 12) sc_law.nd rfl (by first | exact Or.inl rfl | exact Or.inr rfl)) vgs_nil)))
  (vb_cons (vs_if (VW.vt (vw_and (vt_cmp op_le os_le (vo_var (pv 11)) (vo_var (pv 2)) (nomark _)) (vw_and (vt_cmp op_gt os_gt (vo_var (pv 11)) (vo_of (ve_int pe_int)) (nomark _)) (vw_and1 (vt_not (vt_tru rfl (vo_of (ve_call D__law_asked.ok (hr.mono (by first | decide | omega)) (by rfl) D__law_asked.m D__law_asked.kp D__law_asked.b .nil (fun _ _ => .nil) pass0 (va_cons (vo_var (pv 4)) (va_cons (vo_var (pv 2)) (va_cons (vo_var (pv 5)) (va_cons (vo_var (pv 11)) (va_cons (vo_var (pv 12)) (va_cons (vo_var (pv 6)) (va_cons (vo_var (pv 7)) (va_cons (vo_var (pv 8)) va_nil))))))))))))))))
  (vb_one (vs_ret (ve_bl pe_bl)))
  vb_nil)
  (vb_one (vs_if (VW.vt (vw_and (vt_cmp op_le os_le (vo_var (pv 11)) (vo_var (pv 2)) (nomark _)) (vw_and (vt_cmp op_gt os_gt (vo_var (pv 11)) (vo_of (ve_int pe_int)) (nomark _)) (vw_and (vt_cmp (kop_eqD rfl hr.units) os_eq (vo_of (ve_call D__law_draw.ok (hr.mono (by first | decide | omega)) (by rfl) D__law_draw.m D__law_draw.kp D__law_draw.b .nil (fun _ _ => .nil) pass0 (va_cons (vo_var (pv 1)) (va_cons (vo_of (ve_int pe_int)) va_nil)))) (vo_of (ve_int pe_int)) (nomark _)) (vw_and1 (vt_not (vt_tru rfl (vo_of (ve_call D__law_asked_having.ok (hr.mono (by first | decide | omega)) (by rfl) D__law_asked_having.m D__law_asked_having.kp D__law_asked_having.b .nil (fun _ _ => .nil) pass0 (va_cons (vo_var (pv 1)) (va_cons (vo_var (pv 4)) (va_cons (vo_var (pv 2)) (va_cons (vo_var (pv 5)) (va_cons (vo_var (pv 11)) (va_cons (vo_var (pv 6)) (va_cons (vo_var (pv 7)) (va_cons (vo_var (pv 8)) va_nil)))))))))))))))))
  (vb_one (vs_ret (ve_bl pe_bl)))
  vb_nil))))
  (vb_cons (vs_set (i := 11) sc_law.nd rfl (by first | exact Or.inl rfl | exact Or.inr rfl) (ve_ix rfl (vo_of (ve_ix rfl (vo_var (pv 10)) (vo_of (ve_int pe_int)) (fun _ _ => rfl))) (vo_of (ve_int pe_int)) (fun _ _ => rfl)))
  (vb_cons (vs_if (VW.vt (vw_or (vt_not (vt_tru rfl (vo_of (ve_call D__law_asked.ok (hr.mono (by first | decide | omega)) (by rfl) D__law_asked.m D__law_asked.kp D__law_asked.b .nil (fun _ _ => .nil) pass0 (va_cons (vo_var (pv 4)) (va_cons (vo_var (pv 2)) (va_cons (vo_var (pv 5)) (va_cons (vo_var (pv 11)) (va_cons (vo_var (pv 11)) (va_cons (vo_var (pv 6)) (va_cons (vo_of (ve_tup va_nil)) (va_cons (vo_var (pv 8)) va_nil)))))))))))) (vw_or1 (vt_not (vt_tru rfl (vo_of (ve_call D__law_asked.ok (hr.mono (by first | decide | omega)) (by rfl) D__law_asked.m D__law_asked.kp D__law_asked.b .nil (fun _ _ => .nil) pass0 (va_cons (vo_var (pv 4)) (va_cons (vo_var (pv 2)) (va_cons (vo_var (pv 5)) (va_cons (vo_var (pv 11)) (va_cons (vo_of (ve_int pe_int)) (va_cons (vo_var (pv 6)) (va_cons (vo_of (ve_ix rfl (vo_var (pv 4)) (vo_var (pv 6)) (fun _ _ => rfl))) (va_cons (vo_var (pv 8)) va_nil)))))))))))))))
  (vb_one (vs_ret (ve_bl pe_bl)))
  vb_nil)
  (vb_cons (vs_if (vt_not (vt_tru rfl (vo_of (ve_call D__law_asked.ok (hr.mono (by first | decide | omega)) (by rfl) D__law_asked.m D__law_asked.kp D__law_asked.b .nil (fun _ _ => .nil) pass0 (va_cons (vo_var (pv 4)) (va_cons (vo_var (pv 2)) (va_cons (vo_var (pv 5)) (va_cons (vo_var (pv 11)) (va_cons (vo_of (ve_int pe_int)) (va_cons (vo_of (ve_op op_sub os_sub (vo_of (ve_cb (cr_lenP rfl) cs_len (by rfl) T.len (by decide +kernel) (va_cons (vo_var (pv 4)) va_nil))) (vo_of (ve_int pe_int)))) (va_cons (vo_var (pv 7)) (va_cons (vo_of (ve_call D__law_some.ok (hr.mono (by first | decide | omega)) (by rfl) D__law_some.m D__law_some.kp D__law_some.b .nil (fun _ _ => .nil) pass0 (va_cons (vo_var (pv 1)) (va_cons (vo_of (ve_ix rfl (vo_var (pv 4)) (vo_of (ve_neg (ve_int pe_int))) (fun _ _ => rfl))) (va_cons (vo_of (ve_int pe_int)) va_nil))))) va_nil))))))))))))
  (vb_one (vs_ret (ve_bl pe_bl)))
  vb_nil)
  (vb_one (vs_ret (ve_and (ve_call D__law_asked_having.ok (hr.mono (by first | decide | omega)) (by rfl) D__law_asked_having.m D__law_asked_having.kp D__law_asked_having.b .nil (fun _ _ => .nil) pass0 (va_cons (vo_var (pv 1)) (va_cons (vo_var (pv 4)) (va_cons (vo_var (pv 2)) (va_cons (vo_var (pv 5)) (va_cons (vo_var (pv 11)) (va_cons (vo_var (pv 6)) (va_cons (vo_var (pv 7)) (va_cons (vo_var (pv 8)) va_nil))))))))) (ve_one (ve_call D__law_asked_more.ok (hr.mono (by first | decide | omega)) (by rfl) D__law_asked_more.m D__law_asked_more.kp D__law_asked_more.b .nil (fun _ _ => .nil) pass0 (va_cons (vo_var (pv 1)) (va_cons (vo_var (pv 4)) (va_cons (vo_var (pv 2)) (va_cons (vo_var (pv 5)) (va_cons (vo_var (pv 11)) (va_cons (vo_of (ve_op (op_addP rfl) os_add (vo_of (ve_int pe_int)) (vo_of (ve_call D__law_draw.ok (hr.mono (by first | decide | omega)) (by rfl) D__law_draw.m D__law_draw.kp D__law_draw.b .nil (fun _ _ => .nil) pass0 (va_cons (vo_var (pv 1)) (va_cons (vo_of (ve_int pe_int)) va_nil)))))) (va_cons (vo_var (pv 6)) (va_cons (vo_var (pv 7)) (va_cons (vo_var (pv 8)) (va_cons (vo_var (pv 3)) va_nil)))))))))))))))))))))))))) h)
end
end K27

namespace K27
open PySem PySem.Spec PyProof.Rows L2 Hl Vl
/-! ### the law's own defs -/
theorem lay_ints : ∀ ns : List Int, PyData.canLayAll0 (ns.map PyData.int) = true
  | [] => by simp [PyData.canLayAll0]
  | n :: r => by simp [PyData.canLayAll0, PyData.canLay0, lay_ints r]
theorem depth_ints : ∀ ns : List Int, PyData.depthAll (ns.map PyData.int) = 0
  | [] => by simp [PyData.depthAll]
  | n :: r => by
    have h := depth_ints r
    simp only [List.map_cons, PyData.depthAll, PyData.depth, h]
    rfl
theorem shaped_ints (ns : List Int) : SeqAt.shaped (.list (ns.map PyData.int)) = true := by
  show ((PyData.list (ns.map PyData.int)).canLay0 && decide ((PyData.list (ns.map PyData.int)).depth ≤ 64)) = true
  simp only [PyData.canLay0, PyData.depth, lay_ints, depth_ints]
  rfl
theorem at_last (cs : List Int) (h : cs ≠ []) : atI (cs.map V.int) (-1) = some (.int (cs.getLast h)) := by
  have e : cs.map V.int = cs.dropLast.map V.int ++ [.int (cs.getLast h)] := by
    rw [← List.map_singleton, ← List.map_append, List.dropLast_concat_getLast]
  rw [e]
  exact atI_last _ _
theorem get_last (cs : List Int) (h : cs ≠ []) : (cs.map V.int)[(cs.map V.int).length - 1]? = some (.int (cs.getLast h)) := by
  rw [← List.getLast?_eq_getElem?, List.getLast?_map, List.getLast?_eq_getLast h]
  rfl
section
variable {P : Program} {w : World} {K : PySem.W.Frag} {mg : Str → Option Value} {base : Heap}

theorem ok_draw {f : Addr} {fd : FuncData} (F : Fun K "_law_draw" "_law_draw" s__law_draw f fd) (T : Txt K mg) : FnOk P w K mg base CX0 1 f fd ["heap", "many"] sp_draw := by
  refine F.ok sc__law_draw (fun vs H Q E h => ?_) (fun cdv A outer s H vs Q E hr h => ?_)
  · obtain ⟨_, _, _, rfl, _⟩ := h
    rfl
  · obtain ⟨w, q, many, rfl, ⟨cs0, st, hw, hq, hp, hl, hs1, hs2⟩, m0, m1, k⟩ := h
    refine ⟨_, (pss_cons (ps_while PassesOwn.never (PW.pt (pw_and (pt_cmpR (op_neD hr.units) (pe_ix ix_list (pv 0) pe_int (fun _ _ => rfl)) (pe_lst pa_nil) (nomark _)) (pw_and1 (pt_cmpR op_eq (pe_ix ix_list (pe_ix ix_list (pv 0) pe_int (fun _ _ => rfl)) (pe_un un_neg pe_int) (fun _ _ => rfl)) pe_int (nomark _)))))
  (pss_one (ps_expr (pe_bm0 PySem.F.plainAttrs_list PySem.F.slot_list_pop PySem.F.type_list_pop mt_pop (pe_ix ix_list (pv 0) pe_int (fun _ _ => rfl))))))
  (pss_cons (ps_if (pt_cmpR (op_neD hr.units) (pe_ix ix_list (pv 0) pe_int (fun _ _ => rfl)) (pe_lst pa_nil) (nomark _))
  (pss_cons (ps_set (i := 2) sc__law_draw.nd rfl (by first | exact Or.inl rfl | exact Or.inr rfl) (pe_bm0 PySem.F.plainAttrs_list PySem.F.slot_list_pop PySem.F.type_list_pop mt_pop (pe_ix ix_list (pv 0) pe_int (fun _ _ => rfl))))
  (pss_cons (ps_expr (pe_bm PySem.F.plainAttrs_list PySem.F.slot_list_append PySem.F.type_list_append mt_append (pe_ix ix_list (pv 0) pe_int (fun _ _ => rfl)) (pa_cons (pe_op op_fdivN (pv 2) (pv 1)) pa_nil)))
  (pss_one (ps_ret (pe_op op_mod (pe_callTy call_int1 (by rfl) T.int (by decide +kernel) (pa_cons (pv 2) pa_nil)) (pv 1))))))
  pss_nil)
  (pss_cons (ps_asg (pe_op op_mod (pe_callTy call_int1 (by rfl) T.int (by decide +kernel) (pa_cons (pe_op op_add (pe_op op_mul (pe_ix ix_list (pv 0) pe_int (fun _ _ => rfl)) pe_int) pe_int) pa_nil)) pe_int) (pg_sub (pv 0) pe_int set_list))
  (pss_one (ps_ret (pe_op op_mod (pe_callTy call_int1 (by rfl) T.int (by decide +kernel) (pa_cons (pe_op op_fdivN (pe_ix ix_list (pv 0) pe_int (fun _ _ => rfl)) pe_int) pa_nil)) (pv 1))))))), ?_⟩
    -- is a list of ints another one than []
    have test : ∀ {H1 : Hp} {cs : List Int} {p : Addr} {R : VK}, H1 q = some (.lst (cs.map V.int)) → H1 p = none → R (.bl (!cs.isEmpty)) (upd H1 p (.lst [])) → rNeD K (.ref q) (.ref p) (upd H1 p (.lst [])) R := fun {H1 cs p R} h1 h2 r => by
      refine ⟨.list (cs.map PyData.int), .list [], .lst (SqL.of (by rw [upd_ne (ne_of_none h1 h2)]; exact h1)) (dps_ints cs), .lst (SqL.of upd_same) .nil, shaped_ints cs, rfl, ?_⟩
      cases cs with
      | nil => exact r
      | cons c r' => exact r
    refine while_ex (fun m σ H' => σ = [some (.ref w), some (.int many), none] ∧ ∃ cs : List Int, m = cs.length ∧ H' w = some (.lst [.ref q, .int st]) ∧ H' q = some (.lst (cs.map V.int)) ∧ (∀ c ∈ cs, 0 ≤ c) ∧ cs.length ≤ 63 ∧ Frm w q H H')
      (fun σ H' => σ = [some (.ref w), some (.int many), none] ∧ ∃ cs : List Int, H' w = some (.lst [.ref q, .int st]) ∧ H' q = some (.lst (cs.map V.int)) ∧ (∀ c ∈ cs, 0 ≤ c) ∧ cs.length ≤ 63 ∧ Frm w q H H')
      ⟨cs0.length, rfl, cs0, rfl, hw, hq, hp, hl, Frm.refl _ _ _⟩ ?_ ?_
    · rintro m σ H1 ⟨rfl, cs, rfl, hw, hq, hp, hl, fr⟩ Z hZ
      have nwq : w ≠ q := fun e => by
        rw [e, hq] at hw
        cases cs with
        | nil => simp at hw
        | cons c r => simp at hw
      refine ⟨_, rfl, w, _, 0, _, rfl, rfl, SqL.of hw, atI_nat (j := 0) rfl, Nat.zero_le _, fun p hpn => ?_⟩
      have sm : Same H1 (upd H1 p (.lst [])) := same_new hpn
      have hw3 := sm _ _ hw
      have hq3 := sm _ _ hq
      refine test hq hpn ⟨_, rfl, ?_⟩
      by_cases hcs : cs = []
      · subst hcs
        exact iteF (iteF (hZ _ _ ⟨rfl, [], hw3, hq3, hp, hl, fr.trans (Frm.same sm)⟩))
      · have hem : (!cs.isEmpty) = true := by cases cs with
          | nil => exact absurd rfl hcs
          | cons _ _ => rfl
        rw [hem]
        refine iteT ?_
        refine ⟨_, rfl, w, _, 0, _, rfl, rfl, SqL.of hw3, atI_nat (j := 0) rfl, _, rfl, q, _, -1, _, rfl, rfl, SqL.of hq3, at_last cs hcs, rfl, _, rfl, ite_dec (fun z => ?_) (fun z => ?_)⟩
        · refine ⟨fun σ' H' => σ' = [some (.ref w), some (.int many), none] ∧ ∃ cs' : List Int, cs'.length < cs.length ∧ H' w = some (.lst [.ref q, .int st]) ∧ H' q = some (.lst (cs'.map V.int)) ∧ (∀ c ∈ cs', 0 ≤ c) ∧ cs'.length ≤ 63 ∧ Frm w q H H', ?_, ?_⟩
          · rintro σ' H' ⟨rfl, cs', h1, h2, h3, h4, h5, h6⟩
            exact ⟨_, h1, rfl, cs', rfl, h2, h3, h4, h5, h6⟩
          · refine ⟨_, rfl, w, _, 0, _, rfl, rfl, SqL.of hw3, atI_nat (j := 0) rfl, .inl ⟨rfl, _, SqL.of hq3⟩, q, _, _, rfl, rfl, hq3, get_last cs hcs, ?_⟩
            have hpos : 0 < cs.length := List.length_pos_iff.mpr hcs
            refine ⟨rfl, cs.dropLast, by rw [List.length_dropLast]; omega, ?_, ?_, fun c hc => hp _ (List.dropLast_subset _ hc), by rw [List.length_dropLast]; omega, (fr.trans (Frm.same sm)).q⟩
            · rw [upd_ne nwq]; exact hw3
            · rw [upd_same, List.map_dropLast]
        · exact hZ _ _ ⟨rfl, cs, hw3, hq3, hp, hl, fr.trans (Frm.same sm)⟩
    · rintro σ H2 ⟨rfl, cs, hw2, hq2, hp, hl, fr2⟩
      have nwq : w ≠ q := fun e => by
        rw [e, hq2] at hw2
        cases cs with
        | nil => simp at hw2
        | cons c r => simp at hw2
      refine ⟨_, rfl, w, _, 0, _, rfl, rfl, SqL.of hw2, atI_nat (j := 0) rfl, Nat.zero_le _, fun p hpn => ?_⟩
      have sm3 : Same H2 (upd H2 p (.lst [])) := same_new hpn
      have hw3 := sm3 _ _ hw2
      have hq3 := sm3 _ _ hq2
      have fr3 := fr2.trans (Frm.same (w := w) (q := q) sm3)
      refine test hq2 hpn ⟨_, rfl, ?_⟩
      by_cases hcs : cs = []
      · subst hcs
        refine iteF ?_
        refine ⟨_, rfl, w, _, 1, _, rfl, rfl, SqL.of hw3, atI_nat (j := 1) rfl, _, _, rfl, rfl, .inl ⟨by omega, by omega⟩, _, _, rfl, rfl, .inl ⟨_, rfl, ?_⟩⟩
        refine ⟨_, _, rfl, rfl, (by show (0 : Int) < 2147483647; decide), ?_⟩
        refine ⟨_, rfl, w, _, 1, 1, rfl, rfl, hw3, rfl, ?_⟩
        refine ⟨_, rfl, w, _, 1, _, rfl, rfl, SqL.of upd_same, atI_nat (j := 1) rfl, _, _, rfl, rfl, ⟨by decide, by decide⟩, .inl ⟨_, rfl, _, rfl, _, _, rfl, rfl, m0, ?_⟩⟩
        refine k _ _ (Int.emod_nonneg _ (by omega)) (Int.emod_lt_of_pos _ m0) fr3.w ⟨[], _, upd_same, ?_, by simp, by simp, Int.emod_nonneg _ (by omega), Int.emod_lt_of_pos _ (by decide)⟩
        rw [upd_ne nwq.symm]
        exact hq3
      · have hne := hcs
        have hem : (!cs.isEmpty) = true := by cases cs with
          | nil => exact absurd rfl hcs
          | cons _ _ => rfl
        rw [hem]
        refine iteT ?_
        refine ⟨_, rfl, w, _, 0, _, rfl, rfl, SqL.of hw3, atI_nat (j := 0) rfl, .inl ⟨rfl, _, SqL.of hq3⟩, q, _, _, rfl, rfl, hq3, get_last cs hne, ?_⟩
        have hw4 : upd (upd H2 p (.lst [])) q (.lst (cs.map V.int).dropLast) w = some (.lst [.ref q, .int st]) := by rw [upd_ne nwq]; exact hw3
        refine ⟨_, rfl, w, _, 0, _, rfl, rfl, SqL.of hw4, atI_nat (j := 0) rfl, .inl ⟨rfl, _, SqL.of upd_same⟩, _, rfl, _, rfl, _, _, rfl, rfl, ⟨by omega, by omega⟩, q, _, _, rfl, rfl, upd_same, ?_, ?_⟩
        · rw [List.length_dropLast, List.length_map]
          exact Nat.lt_of_le_of_lt (Nat.le_trans (Nat.sub_le _ _) hl) (by decide)
        · refine ⟨_, rfl, .inl ⟨_, rfl, _, rfl, _, _, rfl, rfl, m0, ?_⟩⟩
          have hc0 : 0 ≤ cs.getLast hne := hp _ (List.getLast_mem hne)
          refine k _ _ (Int.emod_nonneg _ (by omega)) (Int.emod_lt_of_pos _ m0) (fr3.q.q) ⟨cs.dropLast ++ [(cs.getLast hne).fdiv many], st, ?_, ?_, ?_, ?_, hs1, hs2⟩
          · rw [upd_ne nwq]; exact hw4
          · rw [upd_same, List.map_append, List.map_dropLast]; rfl
          · intro x hx
            rcases List.mem_append.mp hx with hx | hx
            · exact hp _ (List.dropLast_subset _ hx)
            · rw [List.mem_singleton.mp hx, Int.fdiv_eq_ediv_of_nonneg _ (by omega)]
              exact Int.ediv_nonneg hc0 (by omega)
          · rw [List.length_append, List.length_dropLast, List.length_singleton]
            have : 0 < cs.length := List.length_pos_iff.mpr hne
            omega
end
theorem mem_ints {ns : List Int} {y : V} {i : Nat} (h : (ns.map V.int)[i]? = some y) : ∃ n, y = V.int n ∧ ns[i]? = some n := by
  rw [List.getElem?_map] at h
  cases e : ns[i]? with
  | none => rw [e] at h; cases h
  | some n => rw [e] at h; exact ⟨n, (Option.some.inj h).symm, rfl⟩
section
variable {P : Program} {w : World} {K : PySem.W.Frag} {mg : Str → Option Value} {base : Heap}
theorem ok_heap {f : Addr} {fd : FuncData} (F : Fun K "_law_heap" "_law_heap" s__law_heap f fd) (T : Txt K mg) : FnOk P w K mg base CX0 1 f fd ["script"] (sp_heap K) := by
  refine F.ok sc__law_heap (fun vs H Q E h => ?_) (fun cdv A outer s H vs Q E hr h => ?_)
  · obtain ⟨_, _, rfl, _⟩ := h
    rfl
  · obtain ⟨a, ns, rfl, hS, hl, k⟩ := h
    refine ⟨_, (pss_cons (ps_par (i := 1) (j := 2) rfl sc__law_heap.nd rfl rfl (by decide) rfl rfl (pa_cons (pe_lc (own := [("cell", 3)]) (by rfl) sc__law_heap.nd (pi_list (pe_slice sl_list (pv 0) po_none (po_some pe_int))) (blkOk_by (own := [("cell", 3)]) (N := N__law_heap) (sc := defScope s__law_heap) (by decide +kernel)) (fun _ _ _ _ _ => (pg_name (i := 3) sc__law_heap.nd rfl (by first | exact Or.inl rfl | exact Or.inr rfl))) (fun _ _ _ _ _ => pts_nil) (fun _ _ _ _ _ => (pe_op op_add (pe_op op_mul pe_int (pe_callB call_abs (by rfl) T.abs (by decide +kernel) (pa_cons (pv 3) pa_nil))) (pe_callTy call_int1 (by rfl) T.int (by decide +kernel) (pa_cons (pe_cmpR op_lt (pv 3) pe_int (nomark _)) pa_nil))))) (pa_cons pe_int pa_nil)) (by rfl))
  (pss_cons (ps_for PassesOwn.never rfl (pi_list (pv 1)) (pg_name (i := 3) sc__law_heap.nd rfl (by first | exact Or.inl rfl | exact Or.inr rfl))
  (pss_one (ps_set (i := 2) sc__law_heap.nd rfl (by first | exact Or.inl rfl | exact Or.inr rfl) (pe_op op_mod (pe_callTy call_int1 (by rfl) T.int (by decide +kernel) (pa_cons (pe_op op_add (pe_op op_add (pe_op op_mul (pv 2) pe_int) (pe_op op_mod (pe_callTy call_int1 (by rfl) T.int (by decide +kernel) (pa_cons (pv 3) pa_nil)) pe_int)) pe_int) pa_nil)) pe_int))))
  (pss_one (ps_ret (pe_lst (pa_cons (pe_revL (pe_lc (own := [("cell", 3)]) (by rfl) sc__law_heap.nd (pi_list (pv 1)) (blkOk_by (own := [("cell", 3)]) (N := N__law_heap) (sc := defScope s__law_heap) (by decide +kernel)) (fun _ _ _ _ _ => (pg_name (i := 3) sc__law_heap.nd rfl (by first | exact Or.inl rfl | exact Or.inr rfl))) (fun _ _ _ _ _ => (pts_one (pt_cmpR op_ge (pv 3) (pe_op op_pow pe_int pe_int) (nomark _)))) (fun _ _ _ _ _ => (pv 3)))) (pa_cons (pv 2) pa_nil))))))), ?_⟩
    refine ⟨_, rfl, 60, rfl, a, _, rfl, hS, fun p hp => ?_⟩
    have s1 : Same H (upd H p (.lst (cutV (ns.map V.int) none (some 60)))) := same_new hp
    have hcut : ∃ ms : List Int, cutV (ns.map V.int) none (some 60) = ms.map V.int ∧ ms.length ≤ 63 := by
      refine ⟨(ns.drop (HT.sIx (ns.map V.int).length 0 none)).take (HT.sIx (ns.map V.int).length (ns.map V.int).length (some 60) - HT.sIx (ns.map V.int).length 0 none), ?_, ?_⟩
      · unfold cutV
        rw [List.map_take, List.map_drop]
      · rw [List.length_take, List.length_drop]
        omega
    obtain ⟨ms, ems, hms⟩ := hcut
    rw [ems] at s1 ⊢
    refine ⟨p, rfl, ⟨_, SqL.of upd_same⟩, fun D hD => ?_⟩
    refine lc_same walk_list (by rw [List.length_map]; omega) hD ErI (fun _ _ _ _ _ _ h => h) (fun _ _ _ _ _ h => h) (fun i l => l.length ≤ i ∧ ∀ c ∈ l, 0 ≤ c) ⟨Nat.le_refl _, by simp⟩ (fun H2 sm => SqL.of (sm _ _ upd_same)) ?_ ?_
    · rintro i x H2 H3 l hi sm - ⟨hl1, hl2⟩ ⟨rfl, hx⟩ A B hA hB
      obtain ⟨c, rfl, _⟩ := mem_ints hx
      refine ⟨rfl, t_yes ?_⟩
      refine ⟨_, rfl, _, rfl, _, _, rfl, rfl, .inl ⟨by decide, by decide⟩, ?_⟩
      refine ⟨_, rfl, _, _, rfl, rfl, .inr ⟨_, rfl, ?_⟩⟩
      refine ⟨_, _, rfl, rfl, ?_⟩
      refine hA _ _ _ (Same.refl _) rfl ⟨by rw [List.length_append]; exact Nat.succ_le_succ hl1, fun z hz => ?_⟩
      rcases List.mem_append.mp hz with hz | hz
      · exact hl2 _ hz
      · rw [List.mem_singleton.mp hz]
        split <;> split <;> omega
    · rintro H2 us l sm hD2 hE ⟨hl1, hl2⟩
      have e := hE.ints
      subst e
      rw [List.length_map] at hl1
      refine ⟨_, _, rfl, ?_⟩
      refine ⟨_, rfl, D, rfl, ⟨_, SqL.of hD2⟩, for_list (xs := l.map V.int) (fun i σ H' => ∃ st x, σ = [some (.ref a), some (.ref D), some (.int st), x] ∧ 0 ≤ st ∧ st < 2147483647 ∧ H' = H2) ⟨_, none, rfl, by decide, by decide, rfl⟩ (fun i σ H' _ ⟨_, _, _, _, _, e⟩ => by rw [e]; exact SqL.of hD2) ?_ ?_⟩
      · rintro i y σ H' hy ⟨st, x, rfl, h0, h1, rfl⟩
        obtain ⟨c, rfl, _⟩ := mem_ints hy
        refine ⟨_, rfl, _, _, rfl, rfl, .inl ⟨by omega, by omega⟩, ?_⟩
        refine ⟨_, rfl, .inl ⟨_, rfl, _, _, rfl, rfl, (by show (0 : Int) < 2147483563; decide), ?_⟩⟩
        refine ⟨_, _, rfl, rfl, _, _, rfl, rfl, .inl ⟨_, rfl, _, _, rfl, rfl, (by show (0 : Int) < 2147483647; decide), ?_⟩⟩
        exact ⟨_, _, rfl, Int.emod_nonneg _ (by decide), Int.emod_lt_of_pos _ (by decide), rfl⟩
      · rintro σ H' ⟨st, x, rfl, h0, h1, rfl⟩
        refine ⟨_, rfl, D, rfl, ⟨_, SqL.of hD2⟩, fun D2 hDn => ?_⟩
        refine lc_same (walk_list (xs := l.map V.int)) (by rw [List.length_map]; omega) hDn ErI (fun _ _ _ _ _ _ h => h) (fun _ _ _ _ _ h => h) (fun i m => m.length ≤ i ∧ ∀ c ∈ m, 0 ≤ c) ⟨Nat.le_refl _, by simp⟩ (fun H4 sm4 => SqL.of (sm4 _ _ hD2)) ?_ ?_
        · rintro i x4 H4 H5 m hi sm4 - ⟨hm1, hm2⟩ ⟨rfl, hx⟩ A B hA hB
          obtain ⟨c, rfl, _⟩ := mem_ints hx
          refine ⟨rfl, ?_⟩
          refine ⟨_, rfl, _, _, rfl, rfl, ⟨by decide, by decide, by decide⟩, _, _, rfl, rfl, _, rfl, ite_dec (fun hc => ?_) (fun hc => ?_)⟩
          · refine ⟨_, rfl, hA _ _ _ (Same.refl _) rfl ⟨by rw [List.length_append]; exact Nat.succ_le_succ hm1, fun z hz => ?_⟩⟩
            rcases List.mem_append.mp hz with hz | hz
            · exact hm2 _ hz
            · rw [List.mem_singleton.mp hz]
              have : (0 : Int) ≤ 10 ^ (18 : Int).toNat := by decide
              omega
          · exact hB _ (Same.refl _) ⟨Nat.le_succ_of_le hm1, hm2⟩
        · rintro H4 us m sm4 hD4 hE4 ⟨hm1, hm2⟩
          have e4 := hE4.ints
          subst e4
          rw [List.length_map] at hm1
          refine ⟨D2, _, rfl, SqL.of hD4, fun r hr4 => ?_⟩
          rw [← List.map_reverse]
          have s5 := same_new (o := .lst (m.reverse.map V.int)) hr4
          refine ⟨_, rfl, (by show 2 ≤ sizeLine; decide), fun t ht => ?_⟩
          have s6 := same_new (o := .lst [.ref r, .int st]) ht
          have stot : Same H H4 := (s1.trans sm).trans sm4
          have ntr : t ≠ r := fun e => by rw [e, upd_same] at ht; cases ht
          refine k t r _ ((stot.trans s5).free ht) (stot.free hr4) ((stot.trans s5).trans s6) ⟨m.reverse, st, upd_same, ?_, fun c hc => hm2 c (List.mem_reverse.mp hc), by rw [List.length_reverse]; omega, h0, h1⟩
          rw [upd_ne ntr.symm, upd_same]
end
end K27

namespace K27
open PySem PySem.Spec PyProof.Rows L2 Hl Vl
theorem is_integer_int {i : Int} {Q : D → Prop} (h : Q (.bl true)) : W_is_integer [.int i] Q := by
  simpa [W_is_integer] using h
theorem is_number_int {i m : Int} {Q : D → Prop} (h : Q (.bl (decide (0 ≤ i) && decide (i ≤ m)))) : W_is_number [.int i, .int m] Q := by
  simp [W_is_number]
  refine is_integer_int ?_
  by_cases h0 : 0 ≤ i
  · simp [h0] at h ⊢
    exact ⟨h, fun h' => by omega⟩
  · simp [h0] at h ⊢
    exact fun _ => h
/-- those that are in both, in one's sequence; those that are not in the other -/
def inB (a b : List Int) : List Int := a.filter fun x => decide (x ∈ b)
def woB (a b : List Int) : List Int := a.filter fun x => !decide (x ∈ b)
theorem in_both_ok {a b : List Int} {Q : D → Prop} (hz : a.length ≤ sizeLine) (h : Q (tI (inB a b))) : W_in_both [tI a, tI b] Q := by
  simp [W_in_both]
  refine lc_of D.int (fun x => decide (x ∈ b)) D.int (fun x => [.val (tI a), .val (tI b), .val (.int x)]) a [] (fun x hx A B h1 h2 => ?_) (fun x => by simp) (by simpa using hz) ?_
  · simp at h1 h2 ⊢
    exact ⟨h1, h2⟩
  · simpa [Function.comp_def, inB] using h
theorem comers_ok {c : List (List Int)} {i : Int} {a b : List Int} {Q : D → Prop} (e1 : atI (c.map tI) i = some (tI a)) (e2 : atI (c.map tI) (i - 1) = some (tI b)) (hz : a.length ≤ sizeLine) (h : Q (tI (woB a b))) : W_comers [.tup (c.map tI), .int i] Q := by
  simp [W_comers, e1]
  refine lc_of D.int (fun x => !decide (x ∈ b)) D.int (fun x => [.val (.tup (c.map tI)), .val (.int i), .val (.int x)]) a [] (fun x hx A B h1 h2 => ?_) (fun x => by simp) (by simpa using hz) ?_
  · simp [e2] at h1 h2 ⊢
    exact ⟨h1, h2⟩
  · simpa [Function.comp_def, woB] using h
/-- other lots, dicts too, by who is in them -/
def mem1 (x : Int) : D → Bool
  | .tup l => (intsO l).any fun ns => decide (x ∈ ns)
  | .dct l => (valD l (.inl x)).isSome
  | _ => false
def isLot : D → Bool
  | .tup l => (intsO l).isSome
  | .dct _ => true
  | _ => false
theorem lot_without_ok {a : List Int} {os : List D} {Q : D → Prop} (hz : a.length ≤ sizeLine) (ho : os.length ≤ 1000) (hl : ∀ o ∈ os, isLot o = true) (h : Q (tI (a.filter fun x => !(os.any (mem1 x))))) : starW 1 W_lot_without (tI a :: os) Q := by
  have hz2 : os.length + 1 ≤ sizeLine := by rw [sizeLine_eq]; omega
  simp [W_lot_without, hz2]
  refine lc_of D.int (fun x => !(os.any (mem1 x))) D.int (fun x => [.val (tI a), .val (.tup os), .val (.int x), .no]) a [] (fun x hx A B h1 h2 => ?_) (fun x => by simp) (by simpa using hz) ?_
  · simp
    refine lc_ofD (fun _ => true) (fun o => .bl (mem1 x o)) (fun o => [.val (tI a), .val (.tup os), .val (.int x), .val o]) os [] (fun o ho A' B' k1 k2 => ?_) (fun o => by simp) (by simp; omega) ?_
    · have := hl o ho
      simp at k1 ⊢
      cases o with
      | tup l =>
        simp [isLot, Option.isSome_iff_exists] at this
        obtain ⟨ns, e⟩ := this
        cases intsO_eq e
        simp [mem1] at k1 ⊢
        exact k1
      | dct l => simp [mem1] at k1 ⊢; exact k1
      | _ => cases this
    · have e : (os.map fun o => D.bl (mem1 x o)) = (os.map (mem1 x)).map D.bl := by simp
      have e2 : os.filter (fun _ => true) = os := by simp
      rw [e2, List.nil_append, e, blsO_bls, oK_some]
      simp at h1 h2 ⊢
      exact ⟨h1, h2⟩
  · simpa [Function.comp_def] using h
end K27

namespace K27
open PySem PySem.Spec PyProof.Rows L2 Hl Vl
@[simp] theorem mem_inB {x : Int} {a b : List Int} : x ∈ inB a b ↔ x ∈ a ∧ x ∈ b := by simp [inB]
@[simp] theorem mem_woB {x : Int} {a b : List Int} : x ∈ woB a b ↔ x ∈ a ∧ x ∉ b := by simp [woB]
@[simp] theorem mem_sortI {x : Int} {a : List Int} : x ∈ sortI a ↔ x ∈ a := (sortI_perm a).mem_iff
@[simp] theorem len_sortI {a : List Int} : (sortI a).length = a.length := (sortI_perm a).length_eq
theorem sort_eq {a b : List Int} (h : a.Perm b) : sortI a = sortI b := perm_sorted_eq ((sortI_perm a).trans (h.trans (sortI_perm b).symm)) (sortI_sorted a) (sortI_sorted b)
def opn (L : List Int) (gn : Int) (cur B : List Int) : Bool := decide (gn < (B.length : Int) + ((inB cur L).length : Int))
def freeB (L K T fr : List Int) : List Int := fr.filter fun x => !(decide (x ∈ K) || (decide (x ∈ L) || decide (x ∈ T)))
@[simp] theorem mem_freeB {x : Int} {L K T fr : List Int} : x ∈ freeB L K T fr ↔ x ∈ fr ∧ x ∉ K ∧ x ∉ L ∧ x ∉ T := by simp [freeB]
def nextB (L K : List Int) (gn : Int) (cur nx B T : List Int) : List Int := sortI (inB B nx ++ if opn L gn cur B then freeB L K T (woB nx cur) else [])
def nextT (L : List Int) (gn : Int) (cur nx B T : List Int) : List Int := if opn L gn cur B then T else T ++ woB nx cur
def lineS (L K : List Int) (gn : Int) : Int → List Int → List (List Int) → List Int → List Int → List (List Int) × List Int
  | _, _, [], _, _ => ([], [])
  | i, cur, nx :: rest, B, T =>
    let r := lineS L K gn (i + 1) nx rest (nextB L K gn cur nx B T) (nextT L gn cur nx B T)
    (nextB L K gn cur nx B T :: r.1, if opn L gn cur B then i :: r.2 else r.2)
def startB (L K cur : List Int) : List Int := cur.filter fun x => !(decide (x ∈ K) || decide (x ∈ L))
@[simp] theorem mem_startB {x : Int} {L K cur : List Int} : x ∈ startB L K cur ↔ x ∈ cur ∧ x ∉ K ∧ x ∉ L := by simp [startB]
def lineF (L K : List Int) (gn i : Int) (cur : List Int) (rest : List (List Int)) : List (List Int) × List Int :=
  let r := lineS L K gn i cur rest (startB L K cur) []
  (startB L K cur :: r.1, r.2)
theorem lineS_len {L K : List Int} {gn : Int} : ∀ {i : Int} {cur : List Int} {rest : List (List Int)} {B T : List Int}, (lineS L K gn i cur rest B T).1.length = rest.length
  | _, _, [], _, _ => rfl
  | i, cur, nx :: rest, B, T => by
    simp only [lineS, List.length_cons]
    rw [lineS_len]
theorem lineF_len {L K : List Int} {gn i : Int} {cur : List Int} {rest : List (List Int)} : (lineF L K gn i cur rest).1.length = rest.length + 1 := by
  simp only [lineF, List.length_cons, lineS_len]
/-- good lines -/
structure Gd (L cur B : List Int) : Prop where
  nd : B.Nodup
  sub : ∀ x ∈ B, x ∈ cur
  fr : ∀ x ∈ B, x ∉ L
theorem Gd.start {L K cur : List Int} (h : cur.Nodup) : Gd L cur (startB L K cur) :=
  ⟨h.sublist (List.filter_sublist ..), fun x hx => (mem_startB.1 hx).1, fun x hx => (mem_startB.1 hx).2.2⟩
theorem mem_nextB {L K : List Int} {gn : Int} {cur nx B T : List Int} {x : Int} : x ∈ nextB L K gn cur nx B T ↔ (x ∈ B ∧ x ∈ nx) ∨ (opn L gn cur B = true ∧ x ∈ nx ∧ x ∉ cur ∧ x ∉ K ∧ x ∉ L ∧ x ∉ T) := by
  unfold nextB
  rw [mem_sortI, List.mem_append, mem_inB]
  by_cases h : opn L gn cur B = true
  · simp [h, and_assoc]
  · simp [h]
theorem Gd.next {L K : List Int} {gn : Int} {cur nx B T : List Int} (h : Gd L cur B) (hn : nx.Nodup) : Gd L nx (nextB L K gn cur nx B T) := by
  refine ⟨?_, fun x hx => ?_, fun x hx => ?_⟩
  · refine (sortI_perm _).nodup_iff.2 ?_
    rw [List.nodup_append]
    refine ⟨h.nd.sublist (List.filter_sublist ..), ?_, fun a ha b hb e => ?_⟩
    · split
      · exact (hn.sublist (List.filter_sublist ..)).sublist (List.filter_sublist ..)
      · exact List.nodup_nil
    · subst e
      split at hb
      · exact (mem_woB.1 (mem_freeB.1 hb).1).2 (h.sub _ (mem_inB.1 ha).1)
      · cases hb
  · rcases mem_nextB.1 hx with h | h
    · exact h.2
    · exact h.2.1
  · rcases mem_nextB.1 hx with h' | h'
    · exact h.fr x h'.1
    · exact h'.2.2.2.2.1
theorem Gd.len {L cur B : List Int} (h : Gd L cur B) : B.length ≤ cur.length := h.nd.length_le_of_subset h.sub
theorem len_le {a b : List Int} (h : a.Nodup) (s : ∀ x ∈ a, x ∈ b) : a.length ≤ b.length := h.length_le_of_subset s
/-- more needed, more blanks -/
theorem lineS_need {L K : List Int} {g1 g2 : Int} (hg : g2 ≤ g1) : ∀ {i : Int} {cur : List Int} {rest : List (List Int)} {B1 T1 B2 T2 : List Int}, (∀ l ∈ rest, l.Nodup) → Gd L cur B1 → (∀ x ∈ B1, x ∈ B2) → (∀ x ∈ T2, x ∈ T1) →
    ∀ (j : Nat) (a b : List Int), (lineS L K g1 i cur rest B1 T1).1[j]? = some a → (lineS L K g2 i cur rest B2 T2).1[j]? = some b → ∀ x ∈ a, x ∈ b
  | _, _, [], _, _, _, _, _, _, _, _, j, a, b, ha, _ => by simp [lineS] at ha
  | i, cur, nx :: rest, B1, T1, B2, T2, hr, hG, hB, hT, j, a, b, ha, hb => by
    have ho : opn L g1 cur B1 = true → opn L g2 cur B2 = true := by
      unfold opn
      intro h
      have := of_decide_eq_true h
      have := len_le hG.nd hB
      exact decide_eq_true (by omega)
    have hB' : ∀ x ∈ nextB L K g1 cur nx B1 T1, x ∈ nextB L K g2 cur nx B2 T2 := fun x hx => by
      rcases mem_nextB.1 hx with h | h
      · exact mem_nextB.2 (.inl ⟨hB x h.1, h.2⟩)
      · exact mem_nextB.2 (.inr ⟨ho h.1, h.2.1, h.2.2.1, h.2.2.2.1, h.2.2.2.2.1, fun z => h.2.2.2.2.2 (hT x z)⟩)
    have hT' : ∀ x ∈ nextT L g2 cur nx B2 T2, x ∈ nextT L g1 cur nx B1 T1 := fun x hx => by
      unfold nextT at hx ⊢
      by_cases h1 : opn L g1 cur B1 = true
      · rw [if_pos (ho h1)] at hx
        rw [if_pos h1]; exact hT x hx
      · rw [if_neg h1]
        split at hx
        · exact List.mem_append_left _ (hT x hx)
        · rcases List.mem_append.1 hx with z | z
          · exact List.mem_append_left _ (hT x z)
          · exact List.mem_append_right _ z
    cases j with
    | zero =>
      simp only [lineS, List.getElem?_cons_zero, Option.some.injEq] at ha hb
      subst ha hb
      exact hB'
    | succ j =>
      simp only [lineS, List.getElem?_cons_succ] at ha hb
      exact lineS_need hg (fun l hl => hr l (List.mem_cons_of_mem _ hl)) (hG.next (hr nx (List.mem_cons_self ..))) hB' hT' j a b ha hb
theorem lineF_need {L K : List Int} {g1 g2 : Int} (hg : g2 ≤ g1) {i : Int} {cur : List Int} {rest : List (List Int)} (hc : cur.Nodup) (hr : ∀ l ∈ rest, l.Nodup) (j : Nat) (a b : List Int) (ha : (lineF L K g1 i cur rest).1[j]? = some a) (hb : (lineF L K g2 i cur rest).1[j]? = some b) : ∀ x ∈ a, x ∈ b := by
  cases j with
  | zero =>
    simp only [lineF, List.getElem?_cons_zero, Option.some.injEq] at ha hb
    subst ha hb
    exact fun x h => h
  | succ j =>
    simp only [lineF, List.getElem?_cons_succ] at ha hb
    exact lineS_need hg hr (.start hc) (fun x h => h) (fun x h => h) j a b ha hb
/-- more liars: a liar or a blank is a liar or a blank -/
theorem lineS_more {L M K : List Int} {gn : Int} (hL : ∀ x ∈ L, x ∈ M) : ∀ {i : Int} {cur : List Int} {rest : List (List Int)} {B1 T1 B2 T2 : List Int}, cur.Nodup → (∀ l ∈ rest, l.Nodup) → Gd L cur B1 → (∀ x ∈ B1, x ∈ M ∨ x ∈ B2) → (∀ x ∈ T2, x ∈ T1) →
    ∀ (j : Nat) (a b : List Int), (lineS L K gn i cur rest B1 T1).1[j]? = some a → (lineS M K gn i cur rest B2 T2).1[j]? = some b → ∀ x ∈ a, x ∈ M ∨ x ∈ b
  | _, _, [], _, _, _, _, _, _, _, _, _, j, a, b, ha, _ => by simp [lineS] at ha
  | i, cur, nx :: rest, B1, T1, B2, T2, hc, hr, hG, hB, hT, j, a, b, ha, hb => by
    have ho : opn L gn cur B1 = true → opn M gn cur B2 = true := by
      unfold opn
      intro h
      have h1 := of_decide_eq_true h
      have h2 : (B1 ++ inB cur L).length ≤ (B2 ++ inB cur M).length := by
        refine len_le ?_ fun x hx => ?_
        · rw [List.nodup_append]
          refine ⟨hG.nd, hc.sublist (List.filter_sublist ..), fun a ha b hb e => ?_⟩
          subst e
          exact hG.fr a ha (mem_inB.1 hb).2
        · rcases List.mem_append.1 hx with z | z
          · rcases hB x z with w | w
            · exact List.mem_append_right _ (mem_inB.2 ⟨hG.sub x z, w⟩)
            · exact List.mem_append_left _ w
          · exact List.mem_append_right _ (mem_inB.2 ⟨(mem_inB.1 z).1, hL x (mem_inB.1 z).2⟩)
      rw [List.length_append, List.length_append] at h2
      exact decide_eq_true (by omega)
    have hB' : ∀ x ∈ nextB L K gn cur nx B1 T1, x ∈ M ∨ x ∈ nextB M K gn cur nx B2 T2 := fun x hx => by
      rcases mem_nextB.1 hx with h | h
      · rcases hB x h.1 with z | z
        · exact .inl z
        · exact .inr (mem_nextB.2 (.inl ⟨z, h.2⟩))
      · by_cases hM : x ∈ M
        · exact .inl hM
        · exact .inr (mem_nextB.2 (.inr ⟨ho h.1, h.2.1, h.2.2.1, h.2.2.2.1, hM, fun z => h.2.2.2.2.2 (hT x z)⟩))
    have hT' : ∀ x ∈ nextT M gn cur nx B2 T2, x ∈ nextT L gn cur nx B1 T1 := fun x hx => by
      unfold nextT at hx ⊢
      by_cases h1 : opn L gn cur B1 = true
      · rw [if_pos (ho h1)] at hx
        rw [if_pos h1]; exact hT x hx
      · rw [if_neg h1]
        split at hx
        · exact List.mem_append_left _ (hT x hx)
        · rcases List.mem_append.1 hx with z | z
          · exact List.mem_append_left _ (hT x z)
          · exact List.mem_append_right _ z
    cases j with
    | zero =>
      simp only [lineS, List.getElem?_cons_zero, Option.some.injEq] at ha hb
      subst ha hb
      exact hB'
    | succ j =>
      simp only [lineS, List.getElem?_cons_succ] at ha hb
      exact lineS_more hL (hr nx (List.mem_cons_self ..)) (fun l hl => hr l (List.mem_cons_of_mem _ hl)) (hG.next (hr nx (List.mem_cons_self ..))) hB' hT' j a b ha hb
theorem lineF_more {L M K : List Int} {gn : Int} (hL : ∀ x ∈ L, x ∈ M) {i : Int} {cur : List Int} {rest : List (List Int)} (hc : cur.Nodup) (hr : ∀ l ∈ rest, l.Nodup) (j : Nat) (a b : List Int) (ha : (lineF L K gn i cur rest).1[j]? = some a) (hb : (lineF M K gn i cur rest).1[j]? = some b) : ∀ x ∈ a, x ∈ M ∨ x ∈ b := by
  have h0 : ∀ x ∈ startB L K cur, x ∈ M ∨ x ∈ startB M K cur := fun x hx => by
    by_cases hM : x ∈ M
    · exact .inl hM
    · exact .inr (mem_startB.2 ⟨(mem_startB.1 hx).1, (mem_startB.1 hx).2.1, hM⟩)
  cases j with
  | zero =>
    simp only [lineF, List.getElem?_cons_zero, Option.some.injEq] at ha hb
    subst ha hb
    exact h0
  | succ j =>
    simp only [lineF, List.getElem?_cons_succ] at ha hb
    exact lineS_more hL hc hr (.start hc) h0 (fun x h => h) j a b ha hb
/-- the law's own line -/
theorem nextB_law {L K : List Int} {gn : Int} {cur nx B T : List Int} (hn : nx.Nodup) (hG : Gd L cur B) : nextB L K gn cur nx B T = sortI (inB nx B ++ if opn L gn cur B then freeB L K T (woB nx cur) else []) := by
  refine sort_eq (List.Perm.append_right _ ?_)
  refine (List.perm_ext_iff_of_nodup (hG.nd.sublist (List.filter_sublist ..)) (hn.sublist (List.filter_sublist ..))).2 fun x => ?_
  simp [inB, and_comm]
end K27

namespace K27
open PySem PySem.Spec PyProof.Rows L2 Hl Vl
@[simp] theorem is_integer_iff {i : Int} {Q : D → Prop} : W_is_integer [.int i] Q ↔ Q (.bl true) := by simp [W_is_integer]
@[simp] theorem is_number_iff {i m : Int} {Q : D → Prop} : W_is_number [.int i, .int m] Q ↔ Q (.bl (decide (0 ≤ i) && decide (i ≤ m))) := by
  simp [W_is_number]
  by_cases h0 : 0 ≤ i
  · have : ¬ i < 0 := by omega
    simp [h0, this]
  · have : i < 0 := by omega
    simp [h0, this]
def numFs (k f d m w1 w2 g : Int) : List (Str × D) := [("k", .int k), ("f", .int f), ("d", .int d), ("m", .int m), ("w1", .int w1), ("w2", .int w2), ("g", .int g)]
abbrev numO (k f d m w1 w2 g : Int) : D := .obj "Numbers" (numFs k f d m w1 w2 g)
section
variable {k f d m w1 w2 g : Int}
@[simp] theorem num_d : (numFs k f d m w1 w2 g).lookup (Str.ofString "d") = some (.int d) := by rfl
@[simp] theorem num_m : (numFs k f d m w1 w2 g).lookup (Str.ofString "m") = some (.int m) := by rfl
@[simp] theorem num_g : (numFs k f d m w1 w2 g).lookup (Str.ofString "g") = some (.int g) := by rfl
theorem num_put : putD "g" (.int g) (putD "w2" (.int w2) (putD "w1" (.int w1) (putD "m" (.int m) (putD "d" (.int d) (putD "f" (.int f) (putD "k" (.int k) [])))))) = numFs k f d m w1 w2 g := by rfl
theorem numbers_ok {P : List (Str × D) → Prop} (hk : 1 ≤ k ∧ k ≤ 12) (hf : 0 ≤ f ∧ f ≤ k) (hd : 1 ≤ d ∧ d ≤ 200) (hm : 1 ≤ m ∧ m ≤ k ∧ m ≤ 6) (h1 : 1 ≤ w1 ∧ w1 ≤ k) (h2 : 1 ≤ w2 ∧ w2 ≤ k) (h3 : 1 ≤ g ∧ g ≤ k) (h : P (numFs k f d m w1 w2 g)) :
    W_Numbers_init [.int k, .int f, .int d, .int m, .int w1, .int w2, .int g] P := by
  have z : ∀ {i : Int}, 1 ≤ i → ¬ i = 0 := fun h => by omega
  have s3 : (3 : Nat) ≤ sizeLine := by decide
  simp only [W_Numbers_init, wInit]
  refine ⟨rfl, fun p => ?_⟩
  have a1 : 0 ≤ k := by omega
  have a2 : 0 ≤ d := by omega
  have a3 : 0 ≤ m := by omega
  have a4 : 0 ≤ w1 := by omega
  have a5 : 0 ≤ w2 := by omega
  have a6 : 0 ≤ g := by omega
  have a7 : m ≤ min k 6 := by omega
  simp [W_Numbers_init_L1, enD, prI, -putD, a1, a2, a3, a4, a5, a6, a7, hk.2, hf.1, hf.2, hd.2, h1.2, h2.2, h3.2, z hk.1, z hd.1, z hm.1, z h1.1, z h2.1, z h3.1, s3]
  exact ⟨(by decide : 1 < 1000), (by decide : 2 < 1000), (by decide : 3 < 1000), (by decide : 4 < 1000), (by decide : 5 < 1000), (by decide : 6 < 1000), h⟩
def goneFs (p q : Int) (l k : D) : List (Str × D) := [("p", .int p), ("q", .int q), ("liars", l), ("keepers", k)]
theorem gone_ok {p q : Int} {l k : D} {P : List (Str × D) → Prop} (h : P (goneFs p q l k)) : W_Gone_init [.int p, .int q, l, k] P := by
  simp only [W_Gone_init, wInit]
  refine ⟨rfl, fun a => ?_⟩
  simp [-putD]
  exact ⟨(by decide : 1 < 1000), (by decide : 2 < 1000), (by decide : 3 < 1000), h⟩
end
end K27

namespace K27
open PySem PySem.Spec PyProof.Rows L2 Hl Vl
theorem rgD_zero {lo : Int} : rgD lo 0 = [] := rfl
theorem rgD_succ {lo : Int} {n : Nat} : rgD lo (n + 1) = .int lo :: rgD (lo + 1) n := by
  unfold rgD
  rw [List.range_succ_eq_map, List.map_cons, List.map_map]
  congr 1
  · simp
  · apply List.map_congr_left
    intro i _
    simp [Function.comp]
    omega
/-- a dict that knows just these -/
def LateIs (late : List (Key × D)) (bs : List Int) : Prop := (∀ x : Int, (valD late (.inl x)).isSome = decide (x ∈ bs)) ∧ late.length ≤ bs.length
theorem valD_put (late : List (Key × D)) (k k' : Key) (v : D) : (valD (putKD late k v) k').isSome = (decide (k' = k) || (valD late k').isSome) := by
  have any : ∀ l : List (Key × D), (l.any fun kv => decide (kv.1 = k')) = (valD l k').isSome := by
    intro l
    induction l with
    | nil => rfl
    | cons kv l ih =>
      unfold valD at ih ⊢
      rw [List.any_cons, List.find?_cons]
      by_cases h : kv.1 = k' <;> simp [h, ih]
  rw [← any, ← any]
  unfold putKD
  split
  · rename_i h
    rw [List.any_map]
    have : (late.any ((fun kv => decide (kv.1 = k')) ∘ fun kv => if kv.1 = k then (kv.1, v) else kv)) = late.any fun kv => decide (kv.1 = k') := by
      congr 1
      funext kv
      simp only [Function.comp]
      split <;> rfl
    rw [this]
    by_cases e : k' = k
    · subst e; simp [h]
    · simp [e]
  · rw [List.any_append]
    simp only [List.any_cons, List.any_nil, Bool.or_false]
    rw [Bool.or_comm]
    congr 1
    by_cases e : k' = k
    · simp [e]
    · have : ¬ k = k' := fun z => e z.symm
      simp [e, this]
theorem putKD_len (late : List (Key × D)) (k : Key) (v : D) : (putKD late k v).length ≤ late.length + 1 := by
  unfold putKD
  split <;> simp
theorem LateIs.put {late : List (Key × D)} {bs : List Int} (h : LateIs late bs) (x : Int) (v : D) : LateIs (putKD late (.inl x) v) (bs ++ [x]) := by
  refine ⟨fun y => ?_, ?_⟩
  · rw [valD_put, h.1]
    by_cases e : y = x
    · subst e; simp
    · have : ¬ (Sum.inl y : Key) = Sum.inl x := fun z => e (Sum.inl.inj z)
      simp [e, this]
  · have := putKD_len late (.inl x) v
    have := h.2
    simp; omega
/-- the houses of a closed word are late -/
theorem late_loop {D' : EV} : ∀ (fr : List Int) {a0 a1 a2 a3 a4 a5 a6 a7 a9 a10 a11 a12 a13 a14 : Cell} {late : List (Key × D)} {bs : List Int}, LateIs late bs → bs.length + fr.length ≤ 100000 →
    (∀ late' c, LateIs late' (bs ++ fr) → D'.nx [a0, a1, a2, a3, a4, a5, a6, a7, .dic late', a9, a10, a11, a12, a13, c]) →
    forV (gV 14) W_line_from_L1 (fr.map D.int) D' [a0, a1, a2, a3, a4, a5, a6, a7, .dic late, a9, a10, a11, a12, a13, a14]
  | [], _, _, _, _, _, _, _, _, _, _, _, _, _, _, late, bs, hl, _, h => by
    simpa using h late _ (by simpa using hl)
  | x :: fr, _, _, _, _, _, _, _, _, _, _, _, _, _, _, late, bs, hl, hz, h => by
    rw [List.length_cons] at hz
    have hs : late.length < sizeLine := by have := hl.2; rw [sizeLine_eq]; omega
    simp [W_line_from_L1, hs]
    exact late_loop fr (hl.put x _) (by simp; omega) fun late' c hl' => h late' c (by simpa using hl')
end K27

namespace K27
open PySem PySem.Spec PyProof.Rows L2 Hl Vl
theorem at_c {c : List (List Int)} {i : Nat} {l : List Int} (h : c[i]? = some l) : atI (c.map tI) (i : Int) = some (tI l) :=
  atI_nat (by rw [List.getElem?_map, h]; rfl)
theorem drop_at {α : Type} {c : List α} {i : Nat} {x : α} {r : List α} (h : c.drop i = x :: r) : c[i]? = some x ∧ c.drop (i + 1) = r := by
  refine ⟨?_, ?_⟩
  · have : (c.drop i)[0]? = some x := by rw [h]; rfl
    simpa using this
  · rw [← List.tail_drop, h]; rfl
@[simp] theorem mem1_tI {x : Int} {l : List Int} : mem1 x (tI l) = decide (x ∈ l) := by simp [mem1]
@[simp] theorem isLot_tI {l : List Int} : isLot (tI l) = true := by simp [isLot]
theorem len_inB {a b : List Int} : (inB a b).length ≤ a.length := List.length_filter_le ..
theorem len_woB {a b : List Int} : (woB a b).length ≤ a.length := List.length_filter_le ..
theorem lot_ok {a : List Int} {os : List D} {Q : D → Prop} (hz : a.length ≤ sizeLine) (ho : os.length ≤ 1000) (hl : ∀ o ∈ os, isLot o = true) (h : Q (tI (a.filter fun x => !(os.any (mem1 x))))) : W_lot_without [tI a, .tup os] Q := by
  have := lot_without_ok hz ho hl h
  simp at this
  exact this.2
@[simp] theorem free_ints (l : List Int) : (tI l).free = true := by
  show D.freeL (l.map D.int) = true
  induction l with
  | nil => rfl
  | cons x l ih => rw [List.map_cons, D.freeL, ih]; rfl
structure Crs (c : List (List Int)) : Prop where
  len : c.length ≤ 300
  nd : ∀ l ∈ c, l.Nodup
  sm : ∀ l ∈ c, l.length ≤ 24
theorem line_loop {D' : EV} {c : List (List Int)} {L K : List Int} {fs : List (Str × D)} {g need : Int} {c2 c6 : Cell} (hC : Crs c) (hg : fs.lookup (Str.ofString "g") = some (.int g)) : ∀ (rest : List (List Int)) {i : Nat} {cur B T : List Int} {late : List (Key × D)} {lots gates : List D} {c11 c12 c13 c14 : Cell},
    c.drop i = cur :: rest → Gd L cur B → LateIs late T → T.length + 24 * rest.length ≤ 10000 → lots.length + rest.length ≤ 1000 → gates.length + rest.length ≤ 1000 →
    (∀ b late' d11 d12 d13 d14, D'.nx [.val (.tup (c.map tI)), .val (.obj "Numbers" fs), c2, .val (tI L), .val (tI K), .val (.int need), c6, b, .dic late', .own (lots ++ (lineS L K (g - need) i cur rest B T).1.map tI), .own (gates ++ (lineS L K (g - need) i cur rest B T).2.map D.int), d11, d12, d13, d14]) →
    forV (gV 11) W_line_from_L2 (rgD i rest.length) D' [.val (.tup (c.map tI)), .val (.obj "Numbers" fs), c2, .val (tI L), .val (tI K), .val (.int need), c6, .val (tI B), .dic late, .own lots, .own gates, c11, c12, c13, c14]
  | [], _, _, _, _, _, _, _, _, _, _, _, _, _, _, _, _, _, h => by
    simpa [rgD_zero, lineS] using h _ _ _ _ _ _
  | nx :: rest, i, cur, B, T, late, lots, gates, _, _, _, _, hd, hG, hT, h1, h2, h3, h => by
    obtain ⟨e1, hd'⟩ := drop_at hd
    obtain ⟨e2, _⟩ := drop_at hd'
    have s24 : ∀ {n : Nat}, n ≤ 24 → n ≤ sizeLine := fun h => by rw [sizeLine_eq]; omega
    have m1 := List.mem_of_getElem? e1
    have m2 := List.mem_of_getElem? e2
    have a1 := at_c e1
    have a2 := at_c e2
    rw [Int.natCast_add] at a2
    have hcB : B.length ≤ 24 := Nat.le_trans hG.len (hC.sm _ m1)
    have ec : (i : Int) + 1 - 1 = i := by omega
    rw [List.length_cons] at h1 h2 h3 ⊢
    rw [rgD_succ]
    rw [forV]
    simp only [gV]
    generalize hF : forV (gV 11) W_line_from_L2 (rgD ((i : Int) + 1) rest.length) D' = F
    simp [W_line_from_L2]
    have a2' : atI (c.map tI) ((i : Int) + 1) = some (tI nx) := a2
    simp [a2', a1, hg]
    refine in_both_ok (s24 hcB) (comers_ok a2' (by rw [ec]; exact a1) (s24 (hC.sm _ m2)) (in_both_ok (s24 (hC.sm _ m1)) ?_))
    have hop : ((g - need + 1 ≤ (B.length : Int) + ((inB cur L).length : Int)) ↔ opn L (g - need) cur B = true) := by
      unfold opn; rw [decide_eq_true_eq]; omega
    have hfr : (woB nx cur).length ≤ 24 := Nat.le_trans len_woB (hC.sm _ m2)
    have hin : (inB B nx).length ≤ 24 := Nat.le_trans len_inB hcB
    have zz : ∀ {n : Nat}, n ≤ 100000 → n < sizeLine := fun h => by rw [sizeLine_eq]; omega
    have z1 : gates.length < sizeLine := zz (by omega)
    have z2 : lots.length < sizeLine := zz (by omega)
    have z4 : (4 : Nat) ≤ sizeLine := by rw [sizeLine_eq]; omega
    have hG' := hG.next (K := K) (gn := g - need) (T := T) (hC.nd _ m2)
    simp [hop]
    refine ⟨fun ho => ⟨z1, ?_⟩, fun ho => ?_⟩
    · refine ⟨z4, lot_ok (s24 hfr) (by simp) (by simp [isLot]) ?_⟩
      have ef : (woB nx cur).filter (fun x => !([tI K, tI L, D.dct late].any (mem1 x))) = freeB L K T (woB nx cur) := by
        unfold freeB
        refine List.filter_congr fun x _ => ?_
        simp [mem1, hT.1]
      rw [ef]
      have hfl : (freeB L K T (woB nx cur)).length ≤ 24 := Nat.le_trans (List.length_filter_le ..) hfr
      have zl : (inB B nx).length + (freeB L K T (woB nx cur)).length ≤ sizeLine := by rw [sizeLine_eq]; omega
      have eB : sortI (inB B nx ++ freeB L K T (woB nx cur)) = nextB L K (g - need) cur nx B T := by
        unfold nextB; rw [if_pos ho]
      simp [zl, ← List.map_append, eB, z2]
      rw [← hF]
      refine line_loop hC hg rest (i := i + 1) hd' hG' hT (by omega) (by simp; omega) (by simp; omega) fun b late' d11 d12 d13 d14 => ?_
      simpa [lineS, nextT, ho] using h b late' d11 d12 d13 d14
    · have eB : sortI (inB B nx) = nextB L K (g - need) cur nx B T := by
        unfold nextB; rw [if_neg (by rw [ho]; exact Bool.false_ne_true), List.append_nil]
      refine late_loop _ hT (by omega) fun late' c' hl' => ?_
      simp [eB, z2]
      rw [← hF]
      refine line_loop hC hg rest (i := i + 1) hd' hG' hl' (by simp; omega) (by simp; omega) (by omega) fun b late' d11 d12 d13 d14 => ?_
      simpa [lineS, nextT, ho] using h b late' d11 d12 d13 d14
end K27

namespace K27
open PySem PySem.Spec PyProof.Rows L2 Hl Vl
def lineR (c : List (List Int)) (L K : List Int) (gn : Int) (s : Nat) : List (List Int) × List Int := match c.drop s with
  | [] => ([], [])
  | cur :: rest => lineF L K gn s cur rest
theorem start_eq {L K cur : List Int} : cur.filter (fun x => !([tI K, tI L].any (mem1 x))) = startB L K cur := by
  unfold startB
  refine List.filter_congr fun x _ => ?_
  simp
theorem lateNil : LateIs [] [] := ⟨fun x => by simp [valD], Nat.le_refl _⟩
theorem line_from_ok {c : List (List Int)} {L K : List Int} {fs : List (Str × D)} {g need p d : Int} {s : Nat} {Q : D → Prop} (hC : Crs c) (hg : fs.lookup (Str.ofString "g") = some (.int g)) (hd : fs.lookup (Str.ofString "d") = some (.int d)) (hs : p + d = s)
    (h : Q (.tup [.lst ((lineR c L K (g - need) s).1.map tI), lI (lineR c L K (g - need) s).2])) : W_line_from [.tup (c.map tI), .obj "Numbers" fs, .int p, tI L, tI K, .int need] Q := by
  simp [W_line_from, hd, hs]
  refine ⟨fun hz => ?_, fun hz => ?_⟩
  · have e : c.drop s = [] := List.drop_eq_nil_of_le hz
    unfold lineR at h
    rw [e] at h
    have := hC.len
    have z2 : (2 : Nat) ≤ sizeLine := by rw [sizeLine_eq]; omega
    simp [z2]
    exact h
  · obtain ⟨cur, rest, e⟩ : ∃ cur rest, c.drop s = cur :: rest := by
      cases e : c.drop s with
      | nil => have := List.drop_eq_nil_iff.1 e; omega
      | cons a b => exact ⟨_, _, rfl⟩
    unfold lineR at h
    rw [e] at h
    simp only at h
    obtain ⟨e1, _⟩ := drop_at e
    have m1 := List.mem_of_getElem? e1
    have hl := hC.len
    have er : c.length = s + rest.length + 1 := by
      have := congrArg List.length e
      rw [List.length_drop, List.length_cons] at this
      omega
    have s24 : ∀ {n : Nat}, n ≤ 24 → n ≤ sizeLine := fun h => by rw [sizeLine_eq]; omega
    have z4 : (4 : Nat) ≤ sizeLine := s24 (by omega)
    have z3 : (3 : Nat) ≤ sizeLine := s24 (by omega)
    have z2 : (2 : Nat) ≤ sizeLine := s24 (by omega)
    have z0 : (0 : Nat) < sizeLine := by rw [sizeLine_eq]; omega
    simp [at_c e1]
    refine ⟨z3, lot_ok (s24 (hC.sm _ m1)) (by simp) (by simp) ?_⟩
    rw [start_eq]
    refine ⟨z4, z0, ⟨by omega, by omega, by omega⟩, ?_⟩
    have en : c.length - 1 - s = rest.length := by omega
    rw [en]
    refine line_loop hC hg rest e (.start (hC.nd _ m1)) lateNil (by simp; omega) (by simp; omega) (by simp; omega) fun b late' d11 d12 d13 d14 => ?_
    simp [z2]
    simpa [lineF] using h
end K27

namespace K27
open PySem PySem.Spec PyProof.Rows L2 Hl Vl
theorem lineS_len2 {L K : List Int} {gn : Int} : ∀ {i : Int} {cur : List Int} {rest : List (List Int)} {B T : List Int}, (lineS L K gn i cur rest B T).2.length ≤ rest.length
  | _, _, [], _, _ => Nat.le_refl _
  | i, cur, nx :: rest, B, T => by
    have := @lineS_len2 L K gn (i + 1) nx rest (nextB L K gn cur nx B T) (nextT L gn cur nx B T)
    simp only [lineS, List.length_cons]
    split
    · rw [List.length_cons]; omega
    · omega
theorem lineR_len {c : List (List Int)} {L K : List Int} {gn : Int} {s : Nat} : (lineR c L K gn s).1.length = c.length - s ∧ (lineR c L K gn s).2.length ≤ c.length := by
  unfold lineR
  cases e : c.drop s with
  | nil =>
    have := congrArg List.length e
    rw [List.length_drop, List.length_nil] at this
    simp; omega
  | cons a b =>
    have := congrArg List.length e
    rw [List.length_drop, List.length_cons] at this
    have := @lineS_len2 L K gn s a b (startB L K a) []
    refine ⟨by rw [lineF_len]; omega, ?_⟩
    simp only [lineF]
    omega
section
variable {c : List (List Int)} {L K : List Int} {fs : List (Str × D)} {g need p d : Int} {s : Nat} {Q : D → Prop}
theorem blanks_ok (hC : Crs c) (hg : fs.lookup (Str.ofString "g") = some (.int g)) (hd : fs.lookup (Str.ofString "d") = some (.int d)) (hs : p + d = s)
    (h : Q (.tup ((lineR c L K (g - need) s).1.map tI))) : W_blanks [.tup (c.map tI), .obj "Numbers" fs, .int p, tI L, tI K, .int need] Q := by
  simp [W_blanks]
  refine line_from_ok hC hg hd hs ?_
  simp [atI]
  exact h
theorem open_words_ok (hC : Crs c) (hg : fs.lookup (Str.ofString "g") = some (.int g)) (hd : fs.lookup (Str.ofString "d") = some (.int d)) (hs : p + d = s)
    (h : Q (tI (lineR c L K (g - need) s).2)) : W_open_words [.tup (c.map tI), .obj "Numbers" fs, .int p, tI L, tI K, .int need] Q := by
  simp [W_open_words]
  refine line_from_ok hC hg hd hs ?_
  simp [atI]
  exact h
end
theorem lc_v {α : Type} (enc : α → D) {i : Nat} {c : WT} {w : WE} {ρ : Vn} {Q : List D → Vn → Prop} (p : α → Bool) (out : α → D) (l : List α) (acc : List D)
    (hs : ∀ a ∈ l, ∀ (A : D → Vn → Prop) (B : Vn → Prop), (p a = true → A (out a) (ρ.set i (.val (enc a)))) → (p a = false → B (ρ.set i (.val (enc a)))) → c (ρ.set i (.val (enc a))) fun b ρ2 => (b = true → w ρ2 A) ∧ (b = false → B ρ2))
    (h0 : ρ.set i .no = ρ) (hz : acc.length + l.length ≤ sizeLine) (h : Q (acc ++ (l.filter p).map out) ρ) : lcV (gV i) c w [i] (l.map enc) acc ρ Q := by
  refine lc_of enc p out (fun a => ρ.set i (.val (enc a))) l acc (fun a ha A B h1 h2 => hs a ha A B h1 h2) (fun a => ?_) hz h
  simp [wipeV, h0]
@[simp] theorem flt_true {α : Type} (l : List α) : l.filter (fun _ => true) = l := by simp [List.filter_eq_self]
@[simp] theorem intsO_mapi {α : Type} (f : α → Int) (l : List α) : intsO (l.map fun x => D.int (f x)) = some (l.map f) := by
  have := intsO_ints (l.map f)
  rwa [List.map_map] at this
@[simp] theorem intsO_mapc {α : Type} (f : α → Int) (l : List α) : intsO (l.map (D.int ∘ f)) = some (l.map f) := intsO_mapi f l
theorem sum_inB : ∀ {l a : List Int}, (l.map fun x => if x ∈ a then (1 : Int) else 0).sum = ((inB l a).length : Int)
  | [], _ => rfl
  | x :: l, a => by
    have := @sum_inB l a
    unfold inB at this ⊢
    rw [List.map_cons, List.sum_cons, this, List.filter_cons]
    by_cases h : x ∈ a
    · simp [h]; omega
    · simp [h]
theorem lawline_loop {D' : EV} {c : List (List Int)} {L K : List Int} {g need : Int} {c1 c4 c6 : Cell} (hL : L.length ≤ 24) (hK : K.length ≤ 24) (hC : Crs c) : ∀ (rest : List (List Int)) {i : Nat} {cur B T : List Int} {lots gates : List D} {c11 c12 c13 : Cell},
    c.drop i = cur :: rest → Gd L cur B → T.length + 24 * rest.length ≤ 10000 → lots.length + rest.length ≤ 1000 → gates.length + rest.length ≤ 1000 →
    (∀ b ba d11 d12 d13, D'.nx [.val (.tup (c.map tI)), c1, .val (.int g), .val (.int need), c4, .val (tI L), c6, b, .own (lots ++ (lineS L K (g - need) i cur rest B T).1.map tI), .own (gates ++ (lineS L K (g - need) i cur rest B T).2.map D.int), ba, d11, d12, d13, .no]) →
    forV (gV 11) W__law_line_L1 (rgD i rest.length) D' [.val (.tup (c.map tI)), c1, .val (.int g), .val (.int need), c4, .val (tI L), c6, .val (lI B), .own lots, .own gates, .val (lI (L ++ (K ++ T))), c11, c12, c13, .no]
  | [], _, _, _, _, _, _, _, _, _, _, _, _, _, _, h => by
    simpa [rgD_zero, lineS] using h _ _ _ _ _
  | nx :: rest, i, cur, B, T, lots, gates, c11, c12, c13, hd, hG, h1, h2, h3, h => by
    obtain ⟨e1, hd'⟩ := drop_at hd
    obtain ⟨e2, _⟩ := drop_at hd'
    have s24 : ∀ {n : Nat}, n ≤ 24 → n ≤ sizeLine := fun h => by rw [sizeLine_eq]; omega
    have m1 := List.mem_of_getElem? e1
    have m2 := List.mem_of_getElem? e2
    have a1 := at_c e1
    have a2 := at_c e2
    rw [Int.natCast_add] at a2
    have a2' : atI (c.map tI) ((i : Int) + 1) = some (tI nx) := a2
    have hcB : B.length ≤ 24 := Nat.le_trans hG.len (hC.sm _ m1)
    have hn := hC.sm _ m2
    have hc := hC.sm _ m1
    rw [List.length_cons] at h1 h2 h3 ⊢
    rw [rgD_succ]
    rw [forV]
    simp only [gV]
    generalize hF : forV (gV 11) W__law_line_L1 (rgD ((i : Int) + 1) rest.length) D' = F
    simp [W__law_line_L1, a2']
    refine lc_v D.int (fun x => !decide (x ∈ cur)) D.int nx [] (fun x hx A' B' k1 k2 => ?_) rfl (by simpa using s24 hn) ?_
    · simp [a1] at k1 k2 ⊢
      exact ⟨k1, k2⟩
    simp [a2']
    refine lc_v D.int (fun x => decide (x ∈ B)) D.int nx [] (fun x hx A' B' k1 k2 => ?_) rfl (by simpa using s24 hn) ?_
    · simp at k1 k2 ⊢
      exact ⟨k1, k2⟩
    simp [a1]
    refine lc_v D.int (fun x => true) (fun x => .int (if x ∈ L then 1 else 0)) cur [] (fun x hx A' B' k1 k2 => ?_) rfl (by simpa using s24 hc) ?_
    · simp at k1 k2 ⊢
      exact k1
    simp [sum_inB]
    have hop : ((B.length : Int) + ((inB cur L).length : Int) ≤ g - need ↔ opn L (g - need) cur B = false) := by
      unfold opn; rw [decide_eq_false_iff_not]; omega
    have hop2 : (g - need < (B.length : Int) + ((inB cur L).length : Int) ↔ opn L (g - need) cur B = true) := by
      unfold opn; rw [decide_eq_true_eq]
    have hfr : (woB nx cur).length ≤ 24 := Nat.le_trans len_woB (hC.sm _ m2)
    have hin : (inB nx B).length ≤ 24 := Nat.le_trans len_inB hn
    have zz : ∀ {n : Nat}, n ≤ 100000 → n < sizeLine := fun h => by rw [sizeLine_eq]; omega
    have z1 : gates.length < sizeLine := zz (by omega)
    have z2 : lots.length < sizeLine := zz (by omega)
    have hG' := hG.next (K := K) (gn := g - need) (T := T) (hC.nd _ m2)
    have i1 : nx.filter (fun x => !decide (x ∈ cur)) = woB nx cur := rfl
    have i2 : nx.filter (fun x => decide (x ∈ B)) = inB nx B := rfl
    simp [hop, hop2, i1, i2]
    refine ⟨fun ho => ⟨z1, ?_⟩, fun ho => ?_⟩
    · refine lc_v D.int (fun x => !decide (x ∈ L ++ (K ++ T))) D.int (woB nx cur) [] (fun x hx A' B' k1 k2 => ?_) rfl (by simpa using s24 hfr) ?_
      · generalize L ++ (K ++ T) = Z at k1 k2 ⊢
        simp at k1 k2 ⊢
        exact ⟨k1, k2⟩
      have ef : (woB nx cur).filter (fun x => !decide (x ∈ L ++ (K ++ T))) = freeB L K T (woB nx cur) := by
        unfold freeB
        refine List.filter_congr fun x _ => ?_
        by_cases h1 : x ∈ L <;> by_cases h2 : x ∈ K <;> simp [h1, h2]
      have hfl : (freeB L K T (woB nx cur)).length ≤ 24 := Nat.le_trans (List.length_filter_le ..) hfr
      have zl : (inB nx B).length + (freeB L K T (woB nx cur)).length ≤ sizeLine := by rw [sizeLine_eq]; omega
      have eB : sortI (inB nx B ++ freeB L K T (woB nx cur)) = nextB L K (g - need) cur nx B T := by
        rw [nextB_law (hC.nd _ m2) hG, if_pos ho]
      rw [ef, List.nil_append]
      simp [zl, ← List.map_append, eB, z2]
      rw [← hF]
      refine lawline_loop hL hK hC rest (i := i + 1) hd' hG' (by omega) (by simp; omega) (by simp; omega) fun b ba d11 d12 d13 => ?_
      simpa [lineS, nextT, ho] using h b ba d11 d12 d13
    · have eB : sortI (inB nx B) = nextB L K (g - need) cur nx B T := by
        rw [nextB_law (hC.nd _ m2) hG, if_neg (by rw [ho]; exact Bool.false_ne_true), List.append_nil]
      have zl : L.length + (K.length + T.length) + (woB nx cur).length ≤ sizeLine := by rw [sizeLine_eq]; omega
      refine ⟨zl, z2, ?_⟩
      simp only [← List.map_append, eB]
      rw [← hF]
      refine lawline_loop hL hK hC rest (i := i + 1) (T := T ++ woB nx cur) hd' hG' (by simp; omega) (by simp; omega) (by omega) fun b ba d11 d12 d13 => ?_
      simpa [lineS, nextT, ho] using h b ba d11 d12 d13
theorem law_line_ok {c : List (List Int)} {L K : List Int} {g need p d : Int} {s : Nat} {Q : D → Prop} (hC : Crs c) (hL : L.length ≤ 24) (hK : K.length ≤ 24) (hs : p + d = s) (hz : s < c.length)
    (h : Q (.tup [.lst ((lineR c L K (g - need) s).1.map tI), lI (lineR c L K (g - need) s).2])) : W__law_line [.tup (c.map tI), .int d, .int g, .int need, .int p, tI L, tI K] Q := by
  obtain ⟨cur, rest, e⟩ : ∃ cur rest, c.drop s = cur :: rest := by
    cases e : c.drop s with
    | nil => have := List.drop_eq_nil_iff.1 e; omega
    | cons a b => exact ⟨_, _, rfl⟩
  unfold lineR at h
  rw [e] at h
  simp only at h
  obtain ⟨e1, _⟩ := drop_at e
  have m1 := List.mem_of_getElem? e1
  have hl := hC.len
  have er : c.length = s + rest.length + 1 := by
    have := congrArg List.length e
    rw [List.length_drop, List.length_cons] at this
    omega
  have s24 : ∀ {n : Nat}, n ≤ 48 → n ≤ sizeLine := fun h => by rw [sizeLine_eq]; omega
  have hc := hC.sm _ m1
  have z1 : (1 : Nat) ≤ sizeLine := s24 (by omega)
  have z2 : (2 : Nat) ≤ sizeLine := s24 (by omega)
  have z3 : (3 : Nat) ≤ sizeLine := s24 (by omega)
  have zz : L.length + K.length ≤ sizeLine := s24 (by omega)
  simp [W__law_line, hs, at_c e1]
  refine lc_v D.int (fun x => !(decide (x ∈ K) || decide (x ∈ L))) D.int cur [] (fun x hx A' B' k1 k2 => ?_) rfl (by simpa using s24 (by omega)) ?_
  · simp at k1 k2 ⊢
    by_cases h1 : x ∈ K <;> by_cases h2 : x ∈ L <;> simp [h1, h2] at k1 k2 ⊢ <;> assumption
  have i1 : cur.filter (fun x => !(decide (x ∈ K) || decide (x ∈ L))) = startB L K cur := rfl
  rw [i1, List.nil_append]
  simp [z1, z2, z3, zz, hs]
  have en : c.length - 1 - s = rest.length := by omega
  refine ⟨⟨by omega, by omega, by omega⟩, ?_⟩
  rw [en]
  have eb : List.map D.int L ++ List.map D.int K = List.map D.int (L ++ (K ++ [])) := by simp
  rw [eb]
  refine lawline_loop (c1 := .val (.int d)) (c4 := .val (.int p)) (c6 := .val (tI K)) hL hK hC rest (T := []) e (.start (hC.nd _ m1)) (by simp; omega) (by simp; omega) (by simp; omega) fun b ba d11 d12 d13 => ?_
  simp [z2]
  simpa [lineF] using h
end K27

namespace K27
open PySem PySem.Spec PyProof.Rows L2 Hl Vl
def havE (l L b : List Int) : List Int := l.filter fun x => !(decide (x ∈ L) || decide (x ∈ b))
@[simp] theorem mem_havE {x : Int} {l L b : List Int} : x ∈ havE l L b ↔ x ∈ l ∧ x ∉ L ∧ x ∉ b := by simp [havE]
def havL (c : List (List Int)) (L : List Int) : Nat → List (List Int) → List (List Int)
  | _, [] => []
  | k, b :: bs => havE (c.getD k []) L b :: havL c L (k + 1) bs
theorem havL_len {c : List (List Int)} {L : List Int} : ∀ {k : Nat} {bs : List (List Int)}, (havL c L k bs).length = bs.length
  | _, [] => rfl
  | k, b :: bs => by rw [havL, List.length_cons, List.length_cons, havL_len]
theorem havL_get {c : List (List Int)} {L : List Int} : ∀ {bs : List (List Int)} {k j : Nat} {b : List Int}, bs[j]? = some b → (havL c L k bs)[j]? = some (havE (c.getD (k + j) []) L b)
  | [], _, _, _, h => by simp at h
  | b :: bs, k, 0, _, h => by
    simp at h; subst h; simp [havL]
  | b :: bs, k, j + 1, _, h => by
    rw [List.getElem?_cons_succ] at h
    rw [havL, List.getElem?_cons_succ, havL_get h]
    rw [Nat.add_assoc, Nat.add_comm 1 j]
def prL : Nat → List D → List D
  | _, [] => []
  | k, d :: ds => prI k d :: prL (k + 1) ds
theorem enD_prL (l : List D) : enD l = prL 0 l := by
  have : ∀ (l : List D) (k : Nat), l.mapIdx (fun j => prI (j + k)) = prL k l := by
    intro l
    induction l with
    | nil => intro k; rfl
    | cons d l ih =>
      intro k
      rw [List.mapIdx_cons, prL, ← ih (k + 1)]
      simp only [Nat.zero_add]
      congr 2
      funext j
      rw [Nat.add_assoc, Nat.add_comm 1 k]
  exact this l 0
theorem having_loop {D' : EV} {c : List (List Int)} {L K : List Int} {fs : List (Str × D)} {p d : Nat} (hC : Crs c) (hd : fs.lookup (Str.ofString "d") = some (.int d)) : ∀ (bs : List (List Int)) {k : Nat} {acc : List D} {c6 c7 c8 : Cell},
    1 ≤ k → p + d + k + bs.length ≤ c.length → acc.length + bs.length ≤ 1000 →
    (∀ d6 d7, D'.nx [.val (.tup (c.map tI)), .val (.obj "Numbers" fs), .val (.int p), .val (tI L), .val (tI K), .own (acc ++ (havL c L (p + d + k) bs).map tI), d6, d7, c8]) →
    forV (gTupV 2 (gConsV (gV 6) (gConsV (gV 7) gNilV))) W_having_from_L1 (prL k (bs.map tI)) D' [.val (.tup (c.map tI)), .val (.obj "Numbers" fs), .val (.int p), .val (tI L), .val (tI K), .own acc, c6, c7, c8]
  | [], _, _, _, _, _, _, _, _, h => by simpa [prL, havL] using h _ _
  | b :: bs, k, acc, c6, c7, c8, hk, h1, h2, h => by
    rw [List.length_cons] at h1 h2
    rw [List.map_cons, prL, forV]
    simp only [prI]
    generalize hF : forV (gTupV 2 (gConsV (gV 6) (gConsV (gV 7) gNilV))) W_having_from_L1 (prL (k + 1) (bs.map tI)) D' = F
    obtain ⟨l, e⟩ : ∃ l, c[p + d + k]? = some l := ⟨_, List.getElem?_eq_getElem (by omega)⟩
    have a1 : atI (c.map tI) ((p : Int) + d + k) = some (tI l) := by
      have := at_c e
      rw [Int.natCast_add, Int.natCast_add] at this
      exact this
    have k0 : (0 : Int) < k := by omega
    have kz : k ≠ 0 := by omega
    have kz' : 0 < k := by omega
    have z3 : (3 : Nat) ≤ sizeLine := by rw [sizeLine_eq]; omega
    have za : acc.length < sizeLine := by rw [sizeLine_eq]; omega
    have hl := hC.sm _ (List.mem_of_getElem? e)
    simp [prI, W_having_from_L1, hd, a1, k0, kz, kz', za]
    refine ⟨z3, lot_ok (by rw [sizeLine_eq]; omega) (by simp) (by simp) ?_⟩
    have ef : l.filter (fun x => !([tI L, tI b].any (mem1 x))) = havE l L b := by
      unfold havE
      refine List.filter_congr fun x _ => ?_
      simp
    rw [ef, ← hF]
    refine having_loop hC hd bs (k := k + 1) (by omega) (by omega) (by simp; omega) fun d6 d7 => ?_
    have eg : c.getD (p + d + k) [] = l := by rw [List.getD_eq_getElem?_getD, e]; rfl
    have := h d6 d7
    rw [havL, eg] at this
    simpa [Nat.add_assoc] using this
def keepE (c : List (List Int)) (L K : List Int) (q : Nat) : List Int := inB (woB (c.getD q []) L) K
def hv (c : List (List Int)) (L K : List Int) (gn : Int) (p d q : Nat) : List Int := if q ≤ p + d then keepE c L K q else havE (c.getD q []) L ((lineR c L K gn (p + d)).1.getD (q - p - d) [])
theorem having_from_ok {c : List (List Int)} {L K : List Int} {fs : List (Str × D)} {g m : Int} {p d : Nat} {Q : D → Prop} (hC : Crs c) (hg : fs.lookup (Str.ofString "g") = some (.int g)) (hd : fs.lookup (Str.ofString "d") = some (.int d)) (hm : fs.lookup (Str.ofString "m") = some (.int m)) (hp : p < c.length)
    (h : Q (.lst (((List.range (min (p + d + 1) c.length - p)).map (fun i => keepE c L K (p + i)) ++ havL c L (p + d + 1) (lineR c L K (g - m) (p + d)).1.tail).map tI))) : W_having_from [.tup (c.map tI), .obj "Numbers" fs, .int p, tI L, tI K] Q := by
  have hl := hC.len
  have hmin : min ((p : Int) + d + 1) c.length = ((min (p + d + 1) c.length : Nat) : Int) := by omega
  simp [W_having_from, hd, hm]
  refine ⟨by omega, ?_⟩
  have en : (min ((p : Int) + d + 1) c.length).toNat - p = min (p + d + 1) c.length - p := by omega
  rw [en]
  unfold rgD
  have z2 : (2 : Nat) ≤ sizeLine := by rw [sizeLine_eq]; omega
  refine lc_v (fun i : Nat => D.int ((p : Int) + (i : Nat))) (fun _ => true) (fun i => tI (keepE c L K (p + i))) _ [] (fun i hi A' B' k1 k2 => ?_) rfl (by simp; rw [sizeLine_eq]; omega) ?_
  · have hi' : p + i < c.length := by have := List.mem_range.1 hi; omega
    obtain ⟨l, e⟩ : ∃ l, c[p + i]? = some l := ⟨_, List.getElem?_eq_getElem hi'⟩
    have a1 : atI (c.map tI) ((p : Int) + i) = some (tI l) := by
      have := at_c e
      rw [Int.natCast_add] at this
      exact this
    have hl := hC.sm _ (List.mem_of_getElem? e)
    have eg : c.getD (p + i) [] = l := by rw [List.getD_eq_getElem?_getD, e]; rfl
    have s24 : ∀ {n : Nat}, n ≤ 24 → n ≤ sizeLine := fun h => by rw [sizeLine_eq]; omega
    unfold keepE at k1
    rw [eg] at k1
    simp [a1] at k1 ⊢
    refine ⟨z2, lot_ok (s24 hl) (by simp) (by simp) ?_⟩
    have ef : l.filter (fun x => !([tI L].any (mem1 x))) = woB l L := by
      unfold woB
      refine List.filter_congr fun x _ => ?_
      simp
    rw [ef]
    exact in_both_ok (s24 (Nat.le_trans len_woB hl)) k1
  rw [flt_true, List.nil_append]
  simp [hm]
  refine line_from_ok hC hg hd (Int.natCast_add p d).symm ?_
  have ea : atI [D.lst ((lineR c L K (g - m) (p + d)).1.map tI), lI (lineR c L K (g - m) (p + d)).2] 0 = some (D.lst ((lineR c L K (g - m) (p + d)).1.map tI)) := rfl
  simp only [gIx, ea, oK_some, itD]
  rw [enD_prL]
  have hlen := (@lineR_len c L K (g - m) (p + d)).1
  cases er : (lineR c L K (g - m) (p + d)).1 with
  | nil =>
    rw [er] at h
    simp [havL, prL] at h ⊢
    exact h
  | cons b0 bs =>
    rw [er] at h hlen
    rw [List.length_cons] at hlen
    rw [List.map_cons, prL, forV]
    simp only [prI]
    generalize hF : forV (gTupV 2 (gConsV (gV 6) (gConsV (gV 7) gNilV))) W_having_from_L1 (prL (0 + 1) (bs.map tI)) _ = F
    simp [W_having_from_L1]
    rw [← hF]
    refine having_loop hC hd bs (k := 1) (Nat.le_refl _) (by omega) (by simp; omega) fun d6 d7 => ?_
    simp at h ⊢
    exact h
theorem having_ok {c : List (List Int)} {L K : List Int} {fs : List (Str × D)} {g m : Int} {p d q : Nat} {Q : D → Prop} (hC : Crs c) (hg : fs.lookup (Str.ofString "g") = some (.int g)) (hd : fs.lookup (Str.ofString "d") = some (.int d)) (hm : fs.lookup (Str.ofString "m") = some (.int m)) (hpq : p ≤ q) (hq : q < c.length)
    (h : Q (tI (hv c L K (g - m) p d q))) : W_having [.tup (c.map tI), .obj "Numbers" fs, .obj "Gone" (goneFs p q (tI L) (tI K))] Q := by
  have l1 : (goneFs p q (tI L) (tI K)).lookup (Str.ofString "p") = some (.int p) := rfl
  have l2 : (goneFs p q (tI L) (tI K)).lookup (Str.ofString "q") = some (.int q) := rfl
  have l3 : (goneFs p q (tI L) (tI K)).lookup (Str.ofString "liars") = some (tI L) := rfl
  have l4 : (goneFs p q (tI L) (tI K)).lookup (Str.ofString "keepers") = some (tI K) := rfl
  simp [W_having, l1, l2, l3, l4]
  refine having_from_ok hC hg hd hm (by omega) ?_
  have ei : ((q : Int) - p) = ((q - p : Nat) : Int) := by omega
  rw [ei]
  have hlen := (@lineR_len c L K (g - m) (p + d)).1
  have key : ((List.range (min (p + d + 1) c.length - p)).map (fun i => keepE c L K (p + i)) ++ havL c L (p + d + 1) (lineR c L K (g - m) (p + d)).1.tail)[q - p]? = some (hv c L K (g - m) p d q) := by
    unfold hv
    by_cases hh : q ≤ p + d
    · rw [List.getElem?_append_left (by simp; omega), if_pos hh, List.getElem?_map, List.getElem?_range (by omega)]
      have : p + (q - p) = q := by omega
      simp [this]
    · rw [if_neg hh, List.getElem?_append_right (by simp; omega)]
      have e1 : q - p - ((List.range (min (p + d + 1) c.length - p)).map (fun i => keepE c L K (p + i))).length = q - (p + d + 1) := by simp; omega
      rw [e1]
      cases er : (lineR c L K (g - m) (p + d)).1 with
      | nil => rw [er] at hlen; simp at hlen; omega
      | cons b0 bs =>
        rw [er] at hlen
        rw [List.length_cons] at hlen
        obtain ⟨b, eb⟩ : ∃ b, bs[q - (p + d + 1)]? = some b := ⟨_, List.getElem?_eq_getElem (by omega)⟩
        rw [List.tail_cons, havL_get eb]
        have e2 : p + d + 1 + (q - (p + d + 1)) = q := by omega
        have e3 : q - p - d = (q - (p + d + 1)) + 1 := by omega
        rw [e2, e3, List.getD_eq_getElem?_getD (l := b0 :: bs), List.getElem?_cons_succ, eb]
        rfl
  have : atI (((List.range (min (p + d + 1) c.length - p)).map (fun i => keepE c L K (p + i)) ++ havL c L (p + d + 1) (lineR c L K (g - m) (p + d)).1.tail).map tI) ((q - p : Nat) : Int) = some (tI (hv c L K (g - m) p d q)) := atI_nat (by rw [List.getElem?_map, key]; rfl)
  simp only [gIx, this, oK_some]
  exact h
end K27

namespace K27
open PySem PySem.Spec PyProof.Rows L2 Hl Vl
theorem like_int {n : Nat} {i : Int} {Q : D → Prop} (h : Q (.bl true)) : W__law_like_at (n + 1) [.int i, .int i] Q := by
  simp [W__law_like_at, W__law_like_of]
  exact h
theorem like_tup {n : Nat} {l : List D} {Q : D → Prop} (hl : ∀ d ∈ l, ∀ Q : D → Prop, Q (.bl true) → W__law_like_at n [d, d] Q) (hz : l.length ≤ sizeLine) (h : Q (.bl true)) : W__law_like_at (n + 1) [.tup l, .tup l] Q := by
  simp [W__law_like_at, W__law_like_of]
  have hzip : zipD l l = l.map fun d => D.tup [d, d] := by
    clear hl hz
    induction l with
    | nil => rfl
    | cons d l ih => rw [List.map_cons, ← ih]; rfl
  rw [hzip]
  refine lc_of (fun d : D => D.tup [d, d]) (fun _ => true) (fun _ => .bl true) (fun d => [.val (.tup l), .val (.tup l), .val d, .val d]) l [] (fun d hd A' B' k1 k2 => ?_) (fun d => by simp) (by simpa using hz) ?_
  · simp at k1 ⊢
    exact hl d hd _ k1
  · have e : (l.filter fun _ => true).map (fun _ => D.bl true) = (l.map fun _ => true).map D.bl := by simp
    rw [e, List.nil_append, blsO_bls, oK_some]
    have : (l.map fun _ => true).all id = true := by simp
    rw [this]; exact h
theorem like_tI {n : Nat} {l : List Int} {Q : D → Prop} (hz : l.length ≤ 10000) (h : Q (.bl true)) : W__law_like_at (n + 2) [tI l, tI l] Q := by
  refine like_tup (fun d hd Q hQ => ?_) (by simp; rw [sizeLine_eq]; omega) h
  obtain ⟨i, _, rfl⟩ := List.mem_map.1 hd
  exact like_int hQ
theorem like_tt {n : Nat} {l : List (List Int)} {Q : D → Prop} (hz : l.length ≤ 10000) (hl : ∀ x ∈ l, x.length ≤ 10000) (h : Q (.bl true)) : W__law_like_at (n + 3) [.tup (l.map tI), .tup (l.map tI)] Q := by
  refine like_tup (fun d hd Q hQ => ?_) (by simp; rw [sizeLine_eq]; omega) h
  obtain ⟨i, hi, rfl⟩ := List.mem_map.1 hd
  exact like_tI (hl i hi) hQ
/-- every lot of a line is small -/
theorem lineS_sm {L K : List Int} {gn : Int} {c : List (List Int)} (hC : Crs c) : ∀ {i : Int} {cur : List Int} {rest : List (List Int)} {B T : List Int}, (∀ l ∈ rest, l ∈ c) → Gd L cur B → ∀ l ∈ (lineS L K gn i cur rest B T).1, l.length ≤ 24
  | _, _, [], _, _, _, _, l, h => by simp [lineS] at h
  | i, cur, nx :: rest, B, T, hr, hG, l, h => by
    have hn := hr nx (List.mem_cons_self ..)
    have hG' := hG.next (K := K) (gn := gn) (T := T) (hC.nd _ hn)
    simp only [lineS, List.mem_cons] at h
    rcases h with rfl | h
    · exact Nat.le_trans hG'.len (hC.sm _ hn)
    · exact lineS_sm hC (fun l hl => hr l (List.mem_cons_of_mem _ hl)) hG' l h
theorem lineR_sm {L K : List Int} {gn : Int} {c : List (List Int)} {s : Nat} (hC : Crs c) : ∀ l ∈ (lineR c L K gn s).1, l.length ≤ 24 := by
  unfold lineR
  cases e : c.drop s with
  | nil => intro l h; simp at h
  | cons cur rest =>
    have hm : ∀ x ∈ c.drop s, x ∈ c := fun x hx => List.mem_of_mem_drop hx
    rw [e] at hm
    have hG : Gd L cur (startB L K cur) := .start (hC.nd _ (hm cur (List.mem_cons_self ..)))
    intro l h
    simp only [lineF, List.mem_cons] at h
    rcases h with rfl | h
    · exact Nat.le_trans hG.len (hC.sm _ (hm cur (List.mem_cons_self ..)))
    · exact lineS_sm hC (fun x hx => hm x (List.mem_cons_of_mem _ hx)) hG l h
/-- numbers that a run makes -/
structure Nm (k d g : Int) (K : List Int) : Prop where
  hk : 1 ≤ k ∧ k ≤ 12
  hd : 1 ≤ d ∧ d ≤ 200
  hg : 1 ≤ g ∧ g ≤ k
  hK : 1 ≤ (K.length : Int) ∧ (K.length : Int) ≤ k
theorem asked_ok {c : List (List Int)} {L K : List Int} {k g need : Int} {p d : Nat} {Q : D → Prop} (hC : Crs c) (hN : Nm k d g K) (hL : L.length ≤ 24) (h : Q (.bl true)) :
    W__law_asked [.tup (c.map tI), .int k, .int d, .int g, .int need, .int p, tI L, tI K] Q := by
  have hK : K.length ≤ 24 := by have := hN.hK; have := hN.hk; omega
  have hl := hC.len
  have hsum : ((p : Int) + d) = ((p + d : Nat) : Int) := by omega
  simp [W__law_asked]
  have hk := hN.hk
  refine numbers_ok hN.hk ⟨by omega, Int.le_refl _⟩ hN.hd ⟨by omega, hN.hk.1, by omega⟩ ⟨by omega, hN.hk.1⟩ hN.hK hN.hg ?_
  have hlen := @lineR_len c L K (g - need) (p + d)
  have hsm := @lineR_sm L K (g - need) c (p + d) hC
  refine ⟨fun hz => ?_, fun hz => ?_⟩
  · have e : lineR c L K (g - need) (p + d) = ([], []) := by
      unfold lineR
      rw [List.drop_eq_nil_of_le (by omega)]
    refine blanks_ok hC num_g num_d hsum ?_
    rw [e]
    refine like_tI (n := 2) (l := []) (by simp) ?_
    simp
    refine open_words_ok hC num_g num_d hsum ?_
    rw [e]
    exact like_tI (n := 2) (l := []) (by simp) h
  · refine law_line_ok hC hL hK hsum (by omega) ?_
    simp
    refine blanks_ok hC num_g num_d hsum ?_
    refine like_tt (n := 1) (by omega) (fun x hx => Nat.le_trans (hsm x hx) (by omega)) ?_
    simp
    refine open_words_ok hC num_g num_d hsum ?_
    exact like_tI (n := 2) (by omega) h
end K27

namespace K27
open PySem PySem.Spec PyProof.Rows L2 Hl Vl
theorem woB_woB {l L b : List Int} : woB (woB l L) b = havE l L b := by
  unfold woB havE
  rw [List.filter_filter]
  refine List.filter_congr fun x _ => ?_
  by_cases h1 : x ∈ L <;> by_cases h2 : x ∈ b <;> simp [h1, h2]
theorem due_having_ok {c : List (List Int)} {L K : List Int} {g m : Int} {p d q : Nat} {Q : D → Prop} (hC : Crs c) (hL : L.length ≤ 24) (hK : K.length ≤ 24) (hq : q < c.length)
    (h : Q (lI (hv c L K (g - m) p d q))) : W__law_due_having [.tup (c.map tI), .int d, .int g, .int m, .int p, .int q, tI L, tI K] Q := by
  have hsum : ((p : Int) + d) = ((p + d : Nat) : Int) := by omega
  obtain ⟨cur, e1⟩ : ∃ l, c[q]? = some l := ⟨_, List.getElem?_eq_getElem hq⟩
  have eg : c.getD q [] = cur := by rw [List.getD_eq_getElem?_getD, e1]; rfl
  have hc := hC.sm _ (List.mem_of_getElem? e1)
  have s24 : ∀ {n : Nat}, n ≤ 24 → n ≤ sizeLine := fun h => by rw [sizeLine_eq]; omega
  have hw : (woB cur L).length ≤ 24 := Nat.le_trans len_woB hc
  unfold hv keepE at h
  rw [eg] at h
  simp [W__law_due_having, at_c e1]
  refine lc_v D.int (fun x => !decide (x ∈ L)) D.int cur [] (fun x hx A' B' k1 k2 => ?_) rfl (by simpa using s24 hc) ?_
  · simp at k1 k2 ⊢
    exact ⟨k1, k2⟩
  have i1 : cur.filter (fun x => !decide (x ∈ L)) = woB cur L := rfl
  rw [i1, List.nil_append]
  simp
  refine ⟨fun hz => ?_, fun hz => ?_⟩
  · rw [if_pos (by omega)] at h
    refine lc_v D.int (fun x => decide (x ∈ K)) D.int (woB cur L) [] (fun x hx A' B' k1 k2 => ?_) rfl (by simpa using s24 hw) ?_
    · simp at k1 k2 ⊢
      exact ⟨k1, k2⟩
    simp
    exact h
  · rw [if_neg (by omega)] at h
    refine law_line_ok hC hL hK hsum (by omega) ?_
    have hlen := @lineR_len c L K (g - m) (p + d)
    obtain ⟨b, eb⟩ : ∃ b, (lineR c L K (g - m) (p + d)).1[q - p - d]? = some b := ⟨_, List.getElem?_eq_getElem (by omega)⟩
    have ebg : (lineR c L K (g - m) (p + d)).1.getD (q - p - d) [] = b := by rw [List.getD_eq_getElem?_getD, eb]; rfl
    rw [ebg, ← woB_woB] at h
    have ea : atI [D.lst ((lineR c L K (g - m) (p + d)).1.map tI), lI (lineR c L K (g - m) (p + d)).2] 0 = some (D.lst ((lineR c L K (g - m) (p + d)).1.map tI)) := rfl
    have ec : atI ((lineR c L K (g - m) (p + d)).1.map tI) ((q : Int) - p - d) = some (tI b) := by
      have e : ((q : Int) - p - d) = ((q - p - d : Nat) : Int) := by omega
      rw [e]
      exact at_c eb
    simp [ea, ec]
    refine lc_v D.int (fun x => !decide (x ∈ b)) D.int (woB cur L) [] (fun x hx A' B' k1 k2 => ?_) rfl (by simpa using s24 hw) ?_
    · simp at k1 k2 ⊢
      exact ⟨k1, k2⟩
    simp
    exact h
/-- what is had, more needed -/
theorem hv_mono {c : List (List Int)} {L K : List Int} {g1 g2 : Int} {p d q : Nat} (hC : Crs c) (hg : g2 ≤ g1) (hq : q < c.length) : ∀ x ∈ hv c L K g2 p d q, x ∈ hv c L K g1 p d q := by
  intro x
  unfold hv
  split
  · exact id
  · rename_i hh
    have hl1 := (@lineR_len c L K g1 (p + d)).1
    have hl2 := (@lineR_len c L K g2 (p + d)).1
    obtain ⟨b1, eb1⟩ : ∃ b, (lineR c L K g1 (p + d)).1[q - p - d]? = some b := ⟨_, List.getElem?_eq_getElem (by omega)⟩
    obtain ⟨b2, eb2⟩ : ∃ b, (lineR c L K g2 (p + d)).1[q - p - d]? = some b := ⟨_, List.getElem?_eq_getElem (by omega)⟩
    have eg1 : (lineR c L K g1 (p + d)).1.getD (q - p - d) [] = b1 := by rw [List.getD_eq_getElem?_getD, eb1]; rfl
    have eg2 : (lineR c L K g2 (p + d)).1.getD (q - p - d) [] = b2 := by rw [List.getD_eq_getElem?_getD, eb2]; rfl
    rw [eg1, eg2, mem_havE, mem_havE]
    refine fun ⟨h1, h2, h3⟩ => ⟨h1, h2, fun h4 => h3 ?_⟩
    unfold lineR at eb1 eb2
    cases e : c.drop (p + d) with
    | nil => rw [e] at eb1; simp at eb1
    | cons cur rest =>
      rw [e] at eb1 eb2
      have hm : ∀ x ∈ c.drop (p + d), x ∈ c := fun x hx => List.mem_of_mem_drop hx
      rw [e] at hm
      exact lineF_need hg (hC.nd _ (hm cur (List.mem_cons_self ..))) (fun l hl => hC.nd _ (hm l (List.mem_cons_of_mem _ hl))) _ _ _ eb1 eb2 x h4
theorem hv_len {c : List (List Int)} {L K : List Int} {g1 : Int} {p d q : Nat} (hC : Crs c) (hq : q < c.length) : (hv c L K g1 p d q).length ≤ 24 := by
  obtain ⟨cur, e1⟩ : ∃ l, c[q]? = some l := ⟨_, List.getElem?_eq_getElem hq⟩
  have eg : c.getD q [] = cur := by rw [List.getD_eq_getElem?_getD, e1]; rfl
  have hc := hC.sm _ (List.mem_of_getElem? e1)
  unfold hv keepE
  rw [eg]
  split
  · exact Nat.le_trans len_inB (Nat.le_trans len_woB hc)
  · exact Nat.le_trans (List.length_filter_le ..) hc
end K27

namespace K27
open PySem PySem.Spec PyProof.Rows L2 Hl Vl
theorem hav_loop1 {D' : EV} {c : List (List Int)} {L K : List Int} {k g m w1 : Int} {p d : Nat} {c0 c10 c13 c14 c15 : Cell} (hC : Crs c) (hL : L.length ≤ 24) (hK : K.length ≤ 24) : ∀ (qs : List Int) {c11 c12 : Cell}, (∀ q ∈ qs, (p : Int) ≤ q) →
    (∀ d11 d12, D'.nx [c0, .val (.tup (c.map tI)), .val (.int k), .val (.int d), .val (.int g), .val (.int p), .val (tI L), .val (tI K), .val (.int m), .val (numO k k d m w1 K.length g), c10, d11, d12, c13, c14, c15]) →
    forV (gV 11) W__law_asked_having_L2 (qs.map D.int) D' [c0, .val (.tup (c.map tI)), .val (.int k), .val (.int d), .val (.int g), .val (.int p), .val (tI L), .val (tI K), .val (.int m), .val (numO k k d m w1 K.length g), c10, c11, c12, c13, c14, c15]
  | [], _, _, _, h => h _ _
  | q :: qs, c11, c12, hq, h => by
    rw [List.map_cons, forV]
    simp only [gV]
    generalize hF : forV (gV 11) W__law_asked_having_L2 (qs.map D.int) D' = F
    have hn : ∀ c11 c12, F [c0, .val (.tup (c.map tI)), .val (.int k), .val (.int d), .val (.int g), .val (.int p), .val (tI L), .val (tI K), .val (.int m), .val (numO k k d m w1 K.length g), c10, c11, c12, c13, c14, c15] := fun c11 c12 => by
      rw [← hF]
      exact hav_loop1 hC hL hK qs (fun q h => hq q (List.mem_cons_of_mem _ h)) h
    have h1 := hq q (List.mem_cons_self ..)
    obtain ⟨n, rfl⟩ : ∃ n : Nat, q = n := ⟨q.toNat, by omega⟩
    simp [W__law_asked_having_L2, hn]
    intro hlt
    refine gone_ok ?_
    refine having_ok hC num_g num_d num_m (by omega) hlt ?_
    refine due_having_ok hC hL hK hlt ?_
    simp
    refine like_tI (n := 2) (Nat.le_trans (hv_len hC hlt) (by omega)) ?_
    simp [hn]
theorem hav_loop2 {D' : EV} {c : List (List Int)} {L K : List Int} {k g : Int} {p d : Nat} {c0 c8 c9 c11 : Cell} (hC : Crs c) (hN : Nm k d g K) (hp : p < c.length) : ∀ (n : Nat) {lo : Int} {b : D} {c12 c13 c14 : Cell}, 1 ≤ lo → lo + n ≤ k + 1 → lo + n ≤ 7 →
    (b = .non ∨ ∃ g1, g - lo ≤ g1 ∧ b = tI (hv c L K g1 p d (c.length - 1))) →
    (∀ d10 d12 d13 d14, D'.nx [c0, .val (.tup (c.map tI)), .val (.int k), .val (.int d), .val (.int g), .val (.int p), .val (tI L), .val (tI K), c8, c9, d10, c11, d12, d13, d14, .no]) →
    forV (gV 13) W__law_asked_having_L1 (rgD lo n) D' [c0, .val (.tup (c.map tI)), .val (.int k), .val (.int d), .val (.int g), .val (.int p), .val (tI L), .val (tI K), c8, c9, .val b, c11, c12, c13, c14, .no]
  | 0, _, _, _, _, _, _, _, _, _, h => by simpa [rgD_zero] using h _ _ _ _
  | n + 1, lo, b, c12, c13, c14, h1, h2, h3, hb, h => by
    rw [rgD_succ, forV]
    simp only [gV]
    generalize hF : forV (gV 13) W__law_asked_having_L1 (rgD (lo + 1) n) D' = F
    have hn : ∀ c12 c13 c14, F [c0, .val (.tup (c.map tI)), .val (.int k), .val (.int d), .val (.int g), .val (.int p), .val (tI L), .val (tI K), c8, c9, .val (tI (hv c L K (g - lo) p d (c.length - 1))), c11, c12, c13, c14, .no] := fun c12 c13 c14 => by
      rw [← hF]
      exact hav_loop2 hC hN hp n (by omega) (by omega) (by omega) (.inr ⟨g - lo, by omega, rfl⟩) h
    have hk := hN.hk
    have hlt : c.length - 1 < c.length := by omega
    have hlast : ((c.length : Int) - 1) = ((c.length - 1 : Nat) : Int) := by omega
    simp [W__law_asked_having_L1]
    refine numbers_ok hN.hk ⟨by omega, Int.le_refl _⟩ hN.hd ⟨h1, by omega, by omega⟩ ⟨by omega, hN.hk.1⟩ hN.hK hN.hg ?_
    refine gone_ok ?_
    rw [hlast]
    refine having_ok hC num_g num_d num_m (by omega) hlt ?_
    rcases hb with rfl | ⟨g1, hg, rfl⟩
    · simp [hn]
    · simp
      refine lc_v D.int (fun _ => true) (fun x => .bl true) _ [] (fun x hx A' B' k1 k2 => ?_) rfl (by have := hv_len (L := L) (K := K) (g1 := g - lo) (p := p) (d := d) hC hlt; simp; rw [sizeLine_eq]; omega) ?_
      · have := hv_mono (L := L) (K := K) (p := p) (d := d) hC hg hlt x hx
        simp at k1 ⊢
        simpa [this] using k1
      · have e : ((hv c L K (g - lo) p d (c.length - 1)).filter fun _ => true).map (fun _ => D.bl true) = ((hv c L K (g - lo) p d (c.length - 1)).map fun _ => true).map D.bl := by simp
        have e2 : ((hv c L K (g - lo) p d (c.length - 1)).map fun _ => true).all id = true := by simp
        rw [e, List.nil_append]
        simp only [blsO_bls, oK_some, e2]
        simp [hn]
end K27

namespace K27
open PySem PySem.Spec PyProof.Rows L2 Hl Vl
theorem asked_having_ok {c : List (List Int)} {L K : List Int} {k g : Int} {p d : Nat} {Q : D → Prop} (hC : Crs c) (hN : Nm k d g K) (hL : L.length ≤ 24) (hp : p < c.length) (h : Q (.bl true)) :
    W__law_asked_having [.hnd, .tup (c.map tI), .int k, .int d, .int g, .int p, tI L, tI K] Q := by
  have hk := hN.hk
  have hd := hN.hd
  have hK : K.length ≤ 24 := by have := hN.hK; omega
  have hl := hC.len
  have z2 : (2 : Nat) ≤ sizeLine := by rw [sizeLine_eq]; omega
  have z7 : (7 : Nat) ≤ sizeLine := by rw [sizeLine_eq]; omega
  simp [W__law_asked_having, z2, z7, -forV]
  refine ⟨by omega, by omega, fun r r0 r1 => ⟨by omega, by omega, fun r2 r20 r21 => ?_⟩⟩
  refine numbers_ok hN.hk ⟨by omega, Int.le_refl _⟩ hN.hd ⟨by omega, by omega, by omega⟩ ⟨by omega, by omega⟩ hN.hK hN.hg ?_
  refine ⟨hp, by omega, fun r3 r30 r31 => ?_⟩
  refine hav_loop1 hC hL hK [(p : Int), p + 1, p + d, p + d + 1, p + d + 2, c.length - 1, p + r3] (fun q hq => ?_) fun d11 d12 => ?_
  · simp only [List.mem_cons, List.not_mem_nil, or_false] at hq
    omega
  · simp [-forV]
    refine ⟨by omega, ?_⟩
    have e : (min 6 k + 1 - 1).toNat = (min 6 k).toNat := by omega
    first
      | rw [e]
      | skip
    refine hav_loop2 hC hN hp _ (Int.le_refl _) (by omega) (by omega) (.inl rfl) fun d10 d12 d13 d14 => ?_
    simp
    exact h
theorem opt_get {α : Type} {l : List α} {i : Nat} (h : i < l.length) : ∃ x, l[i]? = some x := ⟨_, List.getElem?_eq_getElem h⟩
end K27

namespace K27
open PySem PySem.Spec PyProof.Rows L2 Hl Vl
theorem sortU_nd (l : List Int) : (sortU l).Nodup := (sortU_sorted l).imp fun h e => by omega
theorem sortU_len (l : List Int) : (sortU l).length ≤ l.length := len_le (sortU_nd l) fun x h => (sortU_mem l x).1 h
theorem pick_tI {l : List Int} {Q : D → Prop} (h0 : 0 < l.length) (hz : l.length ≤ 100000) (h : ∀ x ∈ l, Q (.int x)) : W__law_pick [.hnd, tI l] Q := by
  simp [W__law_pick]
  refine ⟨h0, by omega, fun r r0 r1 => ?_⟩
  obtain ⟨n, rfl⟩ : ∃ n : Nat, r = n := ⟨r.toNat, by omega⟩
  obtain ⟨x, e⟩ := opt_get (l := l) (i := n) (by omega)
  rw [atI_nat (by rw [List.getElem?_map, e]; rfl)]
  exact h x (List.mem_of_getElem? e)
theorem pick_lI {l : List Int} {Q : D → Prop} (h0 : 0 < l.length) (hz : l.length ≤ 100000) (h : ∀ x ∈ l, Q (.int x)) : W__law_pick [.hnd, lI l] Q := by
  simp [W__law_pick]
  refine ⟨h0, by omega, fun r r0 r1 => ?_⟩
  obtain ⟨n, rfl⟩ : ∃ n : Nat, r = n := ⟨r.toNat, by omega⟩
  obtain ⟨x, e⟩ := opt_get (l := l) (i := n) (by omega)
  rw [atI_nat (by rw [List.getElem?_map, e]; rfl)]
  exact h x (List.mem_of_getElem? e)
theorem more_loop {D' : EV} {c one other third : List (List Int)} {L M : List Int} {p d : Nat} {c0 c2 c4 c5 c8 c9 c10 c12 : Cell} (hC : Crs c) (hLM : ∀ x ∈ L, x ∈ M) (hl : p + d + one.length ≤ c.length)
    (h2 : ∀ (j : Nat) (a : List Int), one[j]? = some a → ∃ b t, other[j]? = some b ∧ third[j]? = some t ∧ (∀ x ∈ a, x ∈ M ∨ x ∈ b) ∧ (∀ x ∈ a, x ∈ t) ∧ a.length ≤ 24) : ∀ (bs : List (List Int)) {k : Nat} {c15 c16 c17 : Cell}, one.drop k = bs →
    (∀ d15 d16 d17, D'.nx [c0, .val (.tup (c.map tI)), c2, .val (.int d), c4, c5, .val (.int p), .val (tI L), c8, c9, c10, .val (tI M), c12, .val (.tup (other.map tI)), .val (.tup (third.map tI)), d15, d16, d17, .no]) →
    forV (gTupV 2 (gConsV (gV 15) (gConsV (gV 16) gNilV))) W__law_asked_more_L1 (prL k (bs.map tI)) D' [c0, .val (.tup (c.map tI)), c2, .val (.int d), c4, c5, .val (.int p), .val (tI L), c8, c9, c10, .val (tI M), c12, .val (.tup (other.map tI)), .val (.tup (third.map tI)), c15, c16, c17, .no]
  | [], _, _, _, _, _, h => by simpa [prL] using h _ _ _
  | b :: bs, k, c15, c16, c17, e, h => by
    rw [List.map_cons, prL, forV]
    simp only [prI]
    generalize hF : forV (gTupV 2 (gConsV (gV 15) (gConsV (gV 16) gNilV))) W__law_asked_more_L1 (prL (k + 1) (bs.map tI)) D' = F
    obtain ⟨e1, e2⟩ := drop_at e
    have hn : ∀ c15 c16 c17, F [c0, .val (.tup (c.map tI)), c2, .val (.int d), c4, c5, .val (.int p), .val (tI L), c8, c9, c10, .val (tI M), c12, .val (.tup (other.map tI)), .val (.tup (third.map tI)), c15, c16, c17, .no] := fun c15 c16 c17 => by
      rw [← hF]
      exact more_loop hC hLM hl h2 bs e2 h
    obtain ⟨o, t, eo, et, ho, ht, hb⟩ := h2 k b e1
    have hk : k < one.length := by
      have := List.getElem?_eq_some_iff.1 e1
      exact this.1
    obtain ⟨cu, ec⟩ := opt_get (l := c) (i := p + d + k) (by omega)
    have a1 : atI (c.map tI) ((p : Int) + d + k) = some (tI cu) := by
      have := at_c ec
      rw [Int.natCast_add, Int.natCast_add] at this
      exact this
    have hcu := hC.sm _ (List.mem_of_getElem? ec)
    have s24 : ∀ {n : Nat}, n ≤ 24 → n ≤ sizeLine := fun h => by rw [sizeLine_eq]; omega
    simp [W__law_asked_more_L1, a1]
    refine lc_v D.int (fun x => decide (x ∈ L) || decide (x ∈ b)) D.int cu [] (fun x hx A' B' k1 k2 => ?_) rfl (by simpa using s24 hcu) ?_
    · simp at k1 k2 ⊢
      by_cases h1 : x ∈ L <;> by_cases h2 : x ∈ b <;> simp [h1, h2] at k1 k2 ⊢ <;> assumption
    rw [List.nil_append]
    simp
    generalize hth : cu.filter (fun x => decide (x ∈ L) || decide (x ∈ b)) = th
    have hthl : th.length ≤ 24 := by rw [← hth]; exact Nat.le_trans (List.length_filter_le ..) hcu
    have hthm : ∀ x ∈ th, x ∈ M ∨ x ∈ o := fun x hx => by
      rw [← hth] at hx
      have := (List.mem_filter.1 hx).2
      rw [Bool.or_eq_true, decide_eq_true_eq, decide_eq_true_eq] at this
      exact this.elim (fun z => .inl (hLM x z)) (ho x)
    refine lc_v D.int (fun _ => true) (fun x => .bl true) th [] (fun x hx A' B' k1 k2 => ?_) rfl (by simpa using s24 hthl) ?_
    · simp [at_c eo] at k1 ⊢
      by_cases h1 : x ∈ M
      · simpa [h1] using k1
      · simpa [h1, (hthm x hx).resolve_left h1] using k1
    have e3 : (th.filter fun _ => true).map (fun _ => D.bl true) = (th.map fun _ => true).map D.bl := by simp
    have e4 : (th.map fun _ => true).all id = true := by simp
    rw [e3, List.nil_append]
    simp only [blsO_bls, oK_some, e4]
    simp
    refine lc_v D.int (fun _ => true) (fun x => .bl true) b [] (fun x hx A' B' k1 k2 => ?_) rfl (by simpa using s24 hb) ?_
    · simp [at_c et] at k1 ⊢
      simpa [ht x hx] using k1
    have e3 : (b.filter fun _ => true).map (fun _ => D.bl true) = (b.map fun _ => true).map D.bl := by simp
    have e4 : (b.map fun _ => true).all id = true := by simp
    rw [e3, List.nil_append]
    simp only [blsO_bls, oK_some, e4]
    simp [hn]
end K27

namespace K27
open PySem PySem.Spec PyProof.Rows L2 Hl Vl
theorem asked_more_ok {c : List (List Int)} {L K pool : List Int} {k g need : Int} {p d : Nat} {Q : D → Prop} (hC : Crs c) (hN : Nm k d g K) (hL : L.length ≤ 12) (hp : p + d < c.length) (hpo : 0 < pool.length) (hpl : pool.length ≤ 24) (h : Q (.bl true)) :
    W__law_asked_more [.hnd, .tup (c.map tI), .int k, .int d, .int g, .int need, .int p, tI L, tI K, tI pool] Q := by
  have hk := hN.hk
  have hd := hN.hd
  have hK : K.length ≤ 24 := by have := hN.hK; omega
  have hl := hC.len
  have z1 : (1 : Nat) ≤ sizeLine := by rw [sizeLine_eq]; omega
  have z2 : (2 : Nat) ≤ sizeLine := by rw [sizeLine_eq]; omega
  have zL : L.length + 1 ≤ sizeLine := by rw [sizeLine_eq]; omega
  have hsum : ((p : Int) + d) = ((p + d : Nat) : Int) := by omega
  simp [W__law_asked_more, z2, z1, zL, -forV]
  refine numbers_ok hN.hk ⟨by omega, Int.le_refl _⟩ hN.hd ⟨by omega, by omega, by omega⟩ ⟨by omega, by omega⟩ hN.hK hN.hg ?_
  refine pick_tI hpo (by omega) fun x hx => ?_
  have em : L.map D.int ++ [.int x] = (L ++ [x]).map D.int := by simp
  have hM1 := sortU_len (L ++ [x])
  rw [List.length_append, List.length_singleton] at hM1
  have hLM : ∀ y ∈ L, y ∈ sortU (L ++ [x]) := fun y hy => (sortU_mem _ y).2 (List.mem_append_left _ hy)
  generalize hM : sortU (L ++ [x]) = M at hM1 hLM
  have hMl : M.length ≤ 24 := by omega
  simp only [em, intsO_ints, oK_some, hM]
  simp [-forV]
  refine ⟨by omega, by omega, ?_⟩
  refine blanks_ok hC num_g num_d hsum ?_
  refine blanks_ok hC num_g num_d hsum ?_
  refine blanks_ok hC num_g num_d hsum ?_
  refine law_line_ok hC hMl hK hsum hp ?_
  have ea : ∀ r : List (List Int) × List Int, atI [D.lst (r.1.map tI), lI r.2] 0 = some (D.lst (r.1.map tI)) := fun r => rfl
  have hl1 := @lineR_len c L K (g - need) (p + d)
  have hl2 := @lineR_len c M K (g - need) (p + d)
  have hl3 := @lineR_len c L K (g - (need + 1)) (p + d)
  simp [ea, -forV]
  refine like_tt (n := 1) (by omega) (fun x hx => Nat.le_trans (lineR_sm hC x hx) (by omega)) ?_
  simp [-forV]
  rw [enD_prL]
  refine more_loop hC hLM (by omega) (fun j a ha => ?_) _ (k := 0) rfl fun d15 d16 d17 => ?_
  · have hj := (List.getElem?_eq_some_iff.1 ha).1
    obtain ⟨b, eb⟩ := opt_get (l := (lineR c M K (g - need) (p + d)).1) (i := j) (by omega)
    obtain ⟨t, et⟩ := opt_get (l := (lineR c L K (g - (need + 1)) (p + d)).1) (i := j) (by omega)
    refine ⟨b, t, eb, et, ?_, ?_, lineR_sm hC a (List.mem_of_getElem? ha)⟩
    · unfold lineR at ha eb
      cases e : c.drop (p + d) with
      | nil => rw [e] at ha; simp at ha
      | cons cur rest =>
        rw [e] at ha eb
        have hm : ∀ x ∈ c.drop (p + d), x ∈ c := fun x hx => List.mem_of_mem_drop hx
        rw [e] at hm
        exact lineF_more hLM (hC.nd _ (hm cur (List.mem_cons_self ..))) (fun l hl => hC.nd _ (hm l (List.mem_cons_of_mem _ hl))) _ _ _ ha eb
    · unfold lineR at ha et
      cases e : c.drop (p + d) with
      | nil => rw [e] at ha; simp at ha
      | cons cur rest =>
        rw [e] at ha et
        have hm : ∀ x ∈ c.drop (p + d), x ∈ c := fun x hx => List.mem_of_mem_drop hx
        rw [e] at hm
        exact lineF_need (by omega) (hC.nd _ (hm cur (List.mem_cons_self ..))) (fun l hl => hC.nd _ (hm l (List.mem_cons_of_mem _ hl))) _ _ _ ha et
  · simpa using h
end K27

namespace K27
open PySem PySem.Spec PyProof.Rows L2 Hl Vl
theorem eraseIdx_mapI {α β : Type} (f : α → β) : ∀ (l : List α) (i : Nat), (l.map f).eraseIdx i = (l.eraseIdx i).map f
  | [], _ => rfl
  | _ :: _, 0 => rfl
  | a :: l, i + 1 => by rw [List.map_cons, List.eraseIdx_cons_succ, List.eraseIdx_cons_succ, List.map_cons, eraseIdx_mapI f l i]
theorem perm_erase {α : Type} : ∀ {l : List α} {i : Nat} (h : i < l.length), (l[i] :: l.eraseIdx i).Perm l
  | a :: l, 0, _ => List.Perm.refl _
  | a :: l, i + 1, h => by
    rw [List.eraseIdx_cons_succ, List.getElem_cons_succ]
    have hi : i < l.length := Nat.lt_of_succ_lt_succ h
    exact (List.Perm.swap ..).trans ((perm_erase hi).cons a)
theorem some_loop {D' : EV} {c1 c2 c6 : Cell} : ∀ (n : Nat) {lo : Int} {lf fo : List Int} {c5 : Cell}, n ≤ lf.length → lf.length + fo.length ≤ 10000 → (lf ++ fo).Nodup →
    (∀ (lf' : List D) (fo' : List Int) (d5 : Cell), fo'.length = fo.length + n → fo'.Nodup → (∀ x ∈ fo', x ∈ lf ++ fo) → D'.nx [.val .hnd, c1, c2, .own lf', .own (fo'.map D.int), d5, c6]) →
    forV (gV 5) W__law_some_L1 (rgD lo n) D' [.val .hnd, c1, c2, .own (lf.map D.int), .own (fo.map D.int), c5, c6]
  | 0, lo, lf, fo, c5, _, _, hn, h => h _ _ _ rfl (List.nodup_append.1 hn).2.1 fun x hx => List.mem_append_right _ hx
  | n + 1, lo, lf, fo, c5, h1, h2, hn, h => by
    rw [rgD_succ, forV]
    simp only [gV]
    generalize hF : forV (gV 5) W__law_some_L1 (rgD (lo + 1) n) D' = F
    have z : fo.length < sizeLine := by rw [sizeLine_eq]; omega
    simp [W__law_some_L1]
    refine ⟨by omega, by omega, fun r r0 r1 => ⟨by omega, ?_⟩⟩
    obtain ⟨i, rfl⟩ : ∃ i : Nat, r = i := ⟨r.toNat, by omega⟩
    have hi : i < lf.length := by omega
    have es : seqIndex? (i : Int) lf.length = some i := by
      have : ¬ ((i : Int) < 0) := by omega
      unfold seqIndex?
      simp [hi, this]
    have ee : (lf.map D.int).eraseIdx i = (lf.eraseIdx i).map D.int := eraseIdx_mapI ..
    have hp := perm_erase hi
    have ele : (lf.eraseIdx i).length = lf.length - 1 := List.length_eraseIdx_of_lt hi
    simp [es, hi, z, ee]
    rw [← hF]
    have e2 : fo.map D.int ++ [D.int lf[i]] = (fo ++ [lf[i]]).map D.int := by simp
    rw [e2]
    have hperm : (lf.eraseIdx i ++ (fo ++ [lf[i]])).Perm (lf ++ fo) := by
      have h1 : (lf.eraseIdx i ++ (fo ++ [lf[i]])).Perm (lf.eraseIdx i ++ ([lf[i]] ++ fo)) := List.Perm.append_left _ List.perm_append_comm
      refine h1.trans ?_
      rw [← List.append_assoc]
      refine List.Perm.append_right _ (List.perm_append_comm.trans hp)
    refine some_loop n (by omega) (by simp; omega) (hperm.nodup_iff.2 hn) fun lf' fo' d5 g1 g2 g3 => h lf' fo' d5 (by rw [g1]; simp; omega) g2 fun x hx => hperm.mem_iff.1 (g3 x hx)
def rl (n : Nat) : List Int := (List.range n).map fun i => ((i : Nat) : Int)
theorem rl_len {n : Nat} : (rl n).length = n := by simp [rl]
theorem mem_rl {n : Nat} {x : Int} : x ∈ rl n ↔ 0 ≤ x ∧ x < n := by
  simp only [rl, List.mem_map, List.mem_range]
  constructor
  · rintro ⟨a, h, rfl⟩; omega
  · intro h; exact ⟨x.toNat, by omega, by omega⟩
theorem rl_nd (n : Nat) : (rl n).Nodup := by
  rw [List.nodup_iff_pairwise_ne, rl, List.pairwise_map]
  exact List.Pairwise.imp (fun {a b} h e => by omega) (List.pairwise_lt_range (n := n))
theorem some_ok {pool : List Int} {X : D} {m : Int} {Q : D → Prop} (hX : X = tI pool ∨ X = lI pool) (hn : pool.Nodup) (hm : 0 ≤ m ∧ m ≤ pool.length) (hz : pool.length ≤ 1000)
    (h : ∀ l : List Int, (l.length : Int) = m → l.Nodup → (∀ x ∈ l, x ∈ pool) → Q (tI l)) : W__law_some [.hnd, X, .int m] Q := by
  have es : ∀ n : Nat, (List.range n).map (fun i => D.int (i : Nat)) = (rl n).map D.int := fun n => by simp [rl]
  have key : ∀ (fo : List Int), (fo.length : Int) = m → fo.Nodup → (∀ x ∈ fo, x ∈ rl pool.length) → Q (tI ((sortI fo).map fun x => pool.getD x.toNat 0)) := fun fo h1 h2 h3 => by
    have h3' : ∀ x ∈ sortI fo, 0 ≤ x ∧ x.toNat < pool.length := fun x hx => by
      have := mem_rl.1 (h3 x (mem_sortI.1 hx)); omega
    refine h _ (by simp [h1]) ?_ fun x hx => ?_
    · have hs : (sortI fo).Nodup := (sortI_perm fo).nodup_iff.2 h2
      rw [List.nodup_iff_pairwise_ne, List.pairwise_map]
      refine List.Pairwise.imp_of_mem (fun {a b} ha hb hab e => hab ?_) hs
      obtain ⟨a0, a1⟩ := h3' a ha
      obtain ⟨b0, b1⟩ := h3' b hb
      rw [List.getD_eq_getElem?_getD, List.getD_eq_getElem?_getD, List.getElem?_eq_getElem a1, List.getElem?_eq_getElem b1] at e
      have hpw := List.pairwise_iff_getElem.1 (List.nodup_iff_pairwise_ne.1 hn)
      rcases Nat.lt_trichotomy a.toNat b.toNat with z | z | z
      · exact absurd e (by simpa using hpw _ _ a1 b1 z)
      · omega
      · exact absurd e.symm (by simpa using hpw _ _ b1 a1 z)
    · obtain ⟨y, hy, rfl⟩ := List.mem_map.1 hx
      obtain ⟨y0, y1⟩ := h3' y hy
      rw [List.getD_eq_getElem?_getD, List.getElem?_eq_getElem y1]
      exact List.getElem_mem y1
  have hmn : ∃ n : Nat, m = n := ⟨m.toNat, by omega⟩
  obtain ⟨n, rfl⟩ := hmn
  have hat : ∀ x : Int, x ∈ rl pool.length → atI (pool.map D.int) x = some (.int (pool.getD x.toNat 0)) := fun x hx => by
    have := mem_rl.1 hx
    have h1 : x.toNat < pool.length := by omega
    refine atI_nat' (by omega) ?_
    rw [List.getElem?_map, List.getD_eq_getElem?_getD, List.getElem?_eq_getElem h1]
    rfl
  rcases hX with rfl | rfl
  all_goals
    simp [W__law_some, -forV, -lcV]
    refine ⟨by omega, ?_⟩
    have er : rgD 0 pool.length = (List.range pool.length).map fun i => D.int ((0 : Int) + (i : Nat)) := rfl
    rw [er]
    refine lc_v (fun i : Nat => D.int ((0 : Int) + (i : Nat))) (fun _ => true) (fun i => .int (i : Nat)) _ [] (fun i hi A' B' k1 k2 => ?_) rfl (by simp; rw [sizeLine_eq]; omega) ?_
    · simp at k1 ⊢
      exact k1
    rw [flt_true, List.nil_append, es]
    simp [-forV, -lcV]
    refine ⟨by omega, ?_⟩
    refine some_loop n (lf := rl pool.length) (fo := []) (by rw [rl_len]; omega) (by simp [rl_len]; omega) (by rw [List.append_nil]; exact rl_nd _) fun lf' fo' d5 g1 g2 g3 => ?_
    rw [List.append_nil] at g3
    simp [-forV, -lcV]
    refine lc_v D.int (fun _ => true) (fun x => .int (pool.getD x.toNat 0)) (sortI fo') [] (fun x hx A' B' k1 k2 => ?_) rfl (by rw [List.length_nil, len_sortI, g1, List.length_nil, sizeLine_eq]; omega) ?_
    · have := hat x (g3 x (mem_sortI.1 hx))
      simp [this] at k1 ⊢
      exact k1
    have := key fo' (by simp at g1; omega) g2 g3
    simp at this ⊢
    unfold tI at this
    rw [List.map_map] at this
    exact this
end K27

namespace K27
open PySem PySem.Spec PyProof.Rows L2 Hl Vl
theorem atI_pick {l : List Int} {r : Int} (h0 : 0 ≤ r) (h1 : r < l.length) : ∃ v ∈ l, atI (l.map D.int) r = some (.int v) := by
  obtain ⟨n, rfl⟩ : ∃ n : Nat, r = n := ⟨r.toNat, by omega⟩
  obtain ⟨x, e⟩ := opt_get (l := l) (i := n) (by omega)
  exact ⟨x, List.mem_of_getElem? e, atI_nat (by rw [List.getElem?_map, e]; rfl)⟩
theorem atI_last {l : List (List Int)} {x : List Int} : atI ((l ++ [x]).map tI) (-1) = some (tI x) := by
  have e : ixN ((l ++ [x]).map tI).length (-1) = some l.length := by
    unfold ixN
    have h1 : ¬ ((0 : Int) ≤ -1) := by omega
    simp [h1]
    omega
  unfold atI
  rw [e]
  simp
structure Lot (pool : List Int) (k : Int) (l : List Int) : Prop where
  nd : l.Nodup
  len : (l.length : Int) = k
  sub : ∀ x ∈ l, x ∈ pool
theorem course_loop {D' : EV} {pool : List Int} {k : Int} {c3 : Cell} (hk : 1 ≤ k ∧ k ≤ 12) (hp : pool.Nodup) (hl : pool.length ≤ 24) : ∀ (n : Nat) {lo : Int} {ini : List (List Int)} {la : List Int} {c5 c6 c7 c8 c9 : Cell}, ini.length + n ≤ 1000 → (∀ l ∈ ini ++ [la], Lot pool k l) →
    (∀ (ls : List (List Int)) (d5 d6 d7 d8 d9 : Cell), ls.length = ini.length + 1 + n → (∀ l ∈ ls, Lot pool k l) → D'.nx [.val .hnd, .val (tI pool), .val (.int k), c3, .own (ls.map tI), d5, d6, d7, d8, d9, .no]) →
    forV (gV 5) W__law_course_L1 (rgD lo n) D' [.val .hnd, .val (tI pool), .val (.int k), c3, .own ((ini ++ [la]).map tI), c5, c6, c7, c8, c9, .no]
  | 0, lo, ini, la, _, _, _, _, _, _, hL, h => h _ _ _ _ _ _ (by simp) hL
  | n + 1, lo, ini, la, c5, c6, c7, c8, c9, hz, hL, h => by
    rw [rgD_succ, forV]
    simp only [gV]
    generalize hF : forV (gV 5) W__law_course_L1 (rgD (lo + 1) n) D' = F
    have hla := hL la (by simp)
    generalize hLs : (ini ++ [la]).map tI = Ls
    have e1 : atI Ls (-1) = some (tI la) := by rw [← hLs]; exact atI_last
    have z8 : (8 : Nat) ≤ sizeLine := by rw [sizeLine_eq]; omega
    have z2 : (2 : Nat) ≤ sizeLine := by rw [sizeLine_eq]; omega
    have zl : Ls.length < sizeLine := by rw [← hLs, sizeLine_eq]; simp; omega
    simp [W__law_course_L1]
    refine lc_v D.int (fun x => !decide (x ∈ la)) D.int pool [] (fun x hx A' B' k1 k2 => ?_) rfl (by simp; rw [sizeLine_eq]; omega) ?_
    · simp [e1] at k1 k2 ⊢
      exact ⟨k1, k2⟩
    have i1 : pool.filter (fun x => !decide (x ∈ la)) = woB pool la := rfl
    rw [i1, List.nil_append]
    simp [z8]
    refine ⟨by omega, by omega, fun r r0 r1 r2 r20 r21 => ?_⟩
    obtain ⟨v, hv, ev⟩ := atI_pick (l := [0, 0, 1, 1, 2, 3, k, r]) r20 (by simpa using r21)
    have v0 : 0 ≤ v := by
      simp only [List.mem_cons, List.not_mem_nil, or_false] at hv
      omega
    have ev' : atI [D.int 0, D.int 0, D.int 1, D.int 1, D.int 2, D.int 3, D.int k, D.int r] r2 = some (.int v) := ev
    simp only [ev', oK_some]
    simp
    have hout : (woB pool la).Nodup := hp.sublist (List.filter_sublist ..)
    have houtl : (woB pool la).length ≤ 24 := Nat.le_trans len_woB hl
    have hlal := hla.len
    refine some_ok (.inr rfl) hout ⟨by omega, by omega⟩ (by omega) fun fr f1 f2 f3 => ?_
    simp [e1]
    refine some_ok (.inl rfl) hla.nd ⟨by omega, by omega⟩ (by omega) fun lf l1 l2 l3 => ?_
    have zz : fr.length + lf.length ≤ sizeLine := by rw [sizeLine_eq]; omega
    simp [zz, ← List.map_append, zl]
    rw [← hF, ← hLs]
    have el : (ini ++ [la]).map tI ++ [D.tup ((sortI (fr ++ lf)).map D.int)] = ((ini ++ [la]) ++ [sortI (fr ++ lf)]).map tI := by simp
    rw [el]
    refine course_loop hk hp hl n (by simp; omega) (fun l hl' => ?_) fun ls d5 d6 d7 d8 d9 g1 g2 => h ls d5 d6 d7 d8 d9 (by rw [g1]; simp; omega) g2
    rcases List.mem_append.1 hl' with z | z
    · exact hL l z
    · rw [List.mem_singleton] at z
      subst z
      refine ⟨(sortI_perm _).nodup_iff.2 ?_, by rw [len_sortI, List.length_append]; omega, fun x hx => ?_⟩
      · rw [List.nodup_append]
        refine ⟨f2, l2, fun a ha b hb e => ?_⟩
        subst e
        exact (mem_woB.1 (f3 a ha)).2 (l3 a hb)
      · rcases List.mem_append.1 (mem_sortI.1 hx) with z | z
        · exact (mem_woB.1 (f3 x z)).1
        · exact hla.sub x (l3 x z)
theorem course_ok {pool : List Int} {k : Int} {n : Nat} {Q : D → Prop} (hk : 1 ≤ k ∧ k ≤ 12) (hp : pool.Nodup) (hl : pool.length ≤ 24) (hkp : k ≤ pool.length) (hn : n ≤ 200)
    (h : ∀ ls : List (List Int), ls.length = n + 1 → (∀ l ∈ ls, Lot pool k l) → Q (.tup (ls.map tI))) : W__law_course [.hnd, tI pool, .int k, .int n] Q := by
  have z1 : (1 : Nat) ≤ sizeLine := by rw [sizeLine_eq]; omega
  simp [W__law_course, -forV, -lcV]
  refine some_ok (.inl rfl) hp ⟨by omega, hkp⟩ (by omega) fun l l1 l2 l3 => ⟨z1, ?_⟩
  refine ⟨by omega, ?_⟩
  refine course_loop hk hp hl n (ini := []) (by simp; omega) (fun x hx => ?_) fun ls d5 d6 d7 d8 d9 g1 g2 => ?_
  · rw [List.nil_append, List.mem_singleton] at hx
    subst hx
    exact ⟨l2, l1, l3⟩
  · simp at g1 ⊢
    exact h ls (by omega) g2
end K27

namespace K27
open PySem PySem.Spec PyProof.Rows L2 Hl Vl
structure Made (k : Int) (pool : List Int) (c : List (List Int)) (d p : Nat) (L K : List Int) : Prop where
  hk : 1 ≤ k ∧ k ≤ 12
  hpool : 0 < pool.length ∧ pool.length ≤ 24
  len : 2 ≤ c.length ∧ c.length ≤ 201
  lot : ∀ l ∈ c, Lot pool k l
  hd : 1 ≤ d ∧ p + d < c.length
  hL : L.length ≤ 5
  hK : 1 ≤ (K.length : Int) ∧ (K.length : Int) ≤ k
theorem sumLO_lI : ∀ c : List (List Int), sumLO (c.map lI) = some (c.flatten.map D.int)
  | [] => rfl
  | l :: c => by
    rw [List.map_cons, List.flatten_cons, List.map_append]
    show (sumLO (c.map lI)).map _ = _
    rw [sumLO_lI c]
    rfl
theorem flat_len {m : Nat} : ∀ {c : List (List Int)}, (∀ l ∈ c, l.length ≤ m) → c.flatten.length ≤ m * c.length
  | [], _ => by simp
  | l :: c, h => by
    have h1 := h l (List.mem_cons_self ..)
    have h2 := flat_len (fun x hx => h x (List.mem_cons_of_mem _ hx))
    rw [List.flatten_cons, List.length_append, List.length_cons, Nat.mul_add, Nat.mul_one]
    omega
theorem made_ok {Q : D → Prop} (h : ∀ k pool c d p L K, Made k pool c d p L K → Q (.tup [.int k, tI pool, .tup (c.map tI), .int d, .int p, tI L, tI K])) : W__law_made [.hnd] Q := by
  simp [W__law_made, -forV, -lcV]
  intro k1 k10 k11
  have z2 : (2 : Nat) ≤ sizeLine := by rw [sizeLine_eq]; omega
  have z5 : (5 : Nat) ≤ sizeLine := by rw [sizeLine_eq]; omega
  have z7 : (7 : Nat) ≤ sizeLine := by rw [sizeLine_eq]; omega
  have z8 : (8 : Nat) ≤ sizeLine := by rw [sizeLine_eq]; omega
  have z24 : (24 : Nat) ≤ sizeLine := by rw [sizeLine_eq]; omega
  have er : rgD 0 24 = (rl 24).map D.int := by
    unfold rgD rl
    rw [List.map_map]
    refine List.map_congr_left fun i _ => ?_
    simp
  rw [er]
  refine lc_v D.int (fun _ => true) D.int (rl 24) [] (fun x hx A' B' k1 k2 => ?_) rfl (by rw [rl_len]; simpa using z24) ?_
  · simpa using k1
  rw [flt_true, List.nil_append]
  simp [-forV, -lcV]
  intro r1 r10 r11
  refine some_ok (.inr rfl) (rl_nd 24) ⟨by omega, by rw [rl_len]; omega⟩ (by rw [rl_len]; omega) fun pool p1 p2 p3 => ?_
  have hpool : (pool.length : Int) ≤ 24 ∧ 1 + k1 ≤ pool.length := by omega
  simp [-forV, -lcV, z8]
  refine pick_lI (l := [1, 2, 4, 8, 12, 15, 30, 200]) (by simp) (by simp) fun w hw => ?_
  have hw' : 1 ≤ w ∧ w ≤ 200 := by
    simp only [List.mem_cons, List.not_mem_nil, or_false] at hw
    omega
  obtain ⟨n, rfl⟩ : ∃ n : Nat, w = n := ⟨w.toNat, by omega⟩
  refine course_ok ⟨by omega, by omega⟩ p2 (by omega) hpool.2 (by omega) fun c c1 c2 => ?_
  have hcl : 2 ≤ c.length ∧ c.length ≤ 201 := by omega
  simp [-forV, -lcV, z5]
  refine fun r2 r20 r21 => ⟨by omega, by omega, fun r3 r30 r31 => ?_⟩
  refine pick_lI (l := [0, 0, 1, r2, min 30 r3]) (by simp) (by simp) fun v hv => ?_
  have hv' : 0 ≤ v := by
    simp only [List.mem_cons, List.not_mem_nil, or_false] at hv
    omega
  simp [-forV, -lcV]
  obtain ⟨d, hd⟩ : ∃ d : Nat, min ((c.length : Int) - 1) (1 + v) = d := ⟨(min ((c.length : Int) - 1) (1 + v)).toNat, by omega⟩
  rw [hd]
  refine ⟨by omega, by omega, fun p p0 p1 => ?_⟩
  obtain ⟨p, rfl⟩ : ∃ n : Nat, p = n := ⟨p.toNat, by omega⟩
  refine lc_v tI (fun _ => true) lI c [] (fun x hx A' B' k1 k2 => ?_) rfl (by rw [sizeLine_eq, List.length_nil]; omega) ?_
  · simpa using k1
  rw [flt_true, List.nil_append, sumLO_lI]
  have hlot : ∀ l ∈ c, l.length ≤ 12 := fun l hl => by have := (c2 l hl).len; omega
  have hfl := flat_len hlot
  have hfs : ∀ x ∈ c.flatten, x ∈ pool := fun x hx => by
    obtain ⟨l, hl, hx⟩ := List.mem_flatten.1 hx
    exact (c2 l hl).sub x hx
  have hth : (sortU c.flatten).length ≤ pool.length := len_le (sortU_nd _) fun x hx => hfs x ((sortU_mem _ x).1 hx)
  have hthn := sortU_nd c.flatten
  obtain ⟨cp, ep⟩ := opt_get (l := c) (i := p) (by omega)
  have hcp := c2 cp (List.mem_of_getElem? ep)
  have hcpl := hcp.len
  simp only [oK_some, intsO_ints]
  generalize sortU c.flatten = th at hth hthn
  have hfl2 : c.flatten.length + 1 < 4096 := by omega
  have hfl3 : c.flatten.length ≤ sizeLine := by rw [sizeLine_eq]; omega
  refine ⟨⟨by rw [List.length_map]; omega, by rw [List.length_map]; exact hfl3⟩, hfl2, by omega, ?_⟩
  simp [-forV, -lcV, at_c ep]
  refine ⟨by omega, by omega, fun r4 r40 r41 => ?_⟩
  refine some_ok (.inr rfl) hthn ⟨by omega, by omega⟩ (by omega) fun L l1 l2 l3 => ?_
  refine ⟨by omega, by omega, fun r5 r50 r51 => ?_⟩
  refine some_ok (.inl rfl) hcp.nd ⟨by omega, by omega⟩ (by omega) fun K m1 m2 m3 => ?_
  simp [-forV, -lcV, z7]
  exact h (1 + k1) pool c d p L K ⟨by omega, by omega, hcl, c2, by omega, by omega, by omega⟩
end K27

namespace K27
open PySem PySem.Spec PyProof.Rows L2 Hl Vl
theorem Made.crs {k : Int} {pool : List Int} {c : List (List Int)} {d p : Nat} {L K : List Int} (m : Made k pool c d p L K) : Crs c :=
  ⟨by have := m.len; omega, fun l hl => (m.lot l hl).nd, fun l hl => by have := (m.lot l hl).len; have := m.hk; omega⟩
theorem Made.nm {k g : Int} {pool : List Int} {c : List (List Int)} {d p : Nat} {L K : List Int} (m : Made k pool c d p L K) (hg : 1 ≤ g ∧ g ≤ k) : Nm k d g K :=
  ⟨m.hk, by have := m.hd; have := m.len; omega, hg, m.hK⟩
def prD (e : Int × Int) : D := .tup [.int e.1, .int e.2]
theorem pick_D {l : List D} {Q : D → Prop} (h0 : 0 < l.length) (hz : l.length ≤ 100000) (h : ∀ x ∈ l, Q x) : W__law_pick [.hnd, .lst l] Q := by
  simp [W__law_pick]
  refine ⟨h0, by omega, fun r r0 r1 => ?_⟩
  obtain ⟨n, rfl⟩ : ∃ n : Nat, r = n := ⟨r.toNat, by omega⟩
  obtain ⟨x, e⟩ := opt_get (l := l) (i := n) (by omega)
  rw [atI_nat e]
  exact h x (List.mem_of_getElem? e)
section
variable {k : Int} {pool : List Int} {c : List (List Int)} {d p : Nat} {L K : List Int} {c0 c3 c9 : Cell}
theorem edges_loop {D' : EV} (m : Made k pool c d p L K) : ∀ (gs : List Int) {es : List (Int × Int)} {c11 c12 c13 c14 c15 c16 c18 : Cell}, es.length + 5 * gs.length ≤ 1000 →
    (∀ (es' : List (Int × Int)) (d11 d12 d13 d14 d15 d16 : Cell), es'.length = es.length + 5 * gs.length → es'.head? = es.head? ∨ es = [] → D'.nx [c0, .val .hnd, .val (.int k), c3, .val (.tup (c.map tI)), .val (.int d), .val (.int p), .val (tI L), .val (tI K), c9, .val (.lst (es'.map prD)), d11, d12, d13, d14, d15, d16, .no, c18]) →
    forV (gV 11) W_law_L2 (gs.map D.int) D' [c0, .val .hnd, .val (.int k), c3, .val (.tup (c.map tI)), .val (.int d), .val (.int p), .val (tI L), .val (tI K), c9, .val (.lst (es.map prD)), c11, c12, c13, c14, c15, c16, .no, c18]
  | [], es, _, _, _, _, _, _, _, _, h => h _ _ _ _ _ _ _ (by simp) (.inl rfl)
  | g :: gs, es, c11, c12, c13, c14, c15, c16, c18, hz, h => by
    rw [List.map_cons, forV]
    simp only [gV]
    generalize hF : forV (gV 11) W_law_L2 (gs.map D.int) D' = F
    rw [List.length_cons] at hz
    have hsum : ((p : Int) + d) = ((p + d : Nat) : Int) := by omega
    have hd := m.hd
    have hlen := m.len
    have z2 : (2 : Nat) ≤ sizeLine := by rw [sizeLine_eq]; omega
    have z5 : (5 : Nat) ≤ sizeLine := by rw [sizeLine_eq]; omega
    have ze : es.length + 5 ≤ sizeLine := by rw [sizeLine_eq]; omega
    simp [W_law_L2]
    refine fun r r0 r1 => law_line_ok m.crs (by have := m.hL; omega) (by have := m.hK; have := m.hk; omega) hsum (by omega) ?_
    have hl1 := @lineR_len c L K (g - (1 + r)) (p + d)
    simp
    refine ⟨by omega, by omega, fun a a0 a1 => ?_⟩
    obtain ⟨a, rfl⟩ : ∃ n : Nat, a = n := ⟨a.toNat, by omega⟩
    obtain ⟨lo, elo⟩ := opt_get (l := (lineR c L K (g - (1 + r)) (p + d)).1) (i := a) (by omega)
    obtain ⟨cu, ecu⟩ := opt_get (l := c) (i := p + d + a) (by omega)
    have acu : atI (c.map tI) ((p : Int) + d + a) = some (tI cu) := by
      have := at_c ecu
      rw [Int.natCast_add, Int.natCast_add] at this
      exact this
    have hcu := m.crs.sm _ (List.mem_of_getElem? ecu)
    simp [at_c elo, acu]
    refine lc_v D.int (fun x => true) (fun x => .int (if x ∈ L then 1 else 0)) cu [] (fun x hx A' B' k1 k2 => ?_) rfl (by rw [sizeLine_eq, List.length_nil]; omega) ?_
    · simp at k1 k2 ⊢
      exact k1
    rw [flt_true, List.nil_append]
    simp [z2, z5, ze]
    rw [← hF]
    generalize (lo.length : Int) + (cu.map fun x => if x ∈ L then (1 : Int) else 0).sum = t
    have ee : es.map prD ++ [D.tup [.int t, .int 1], .tup [.int (t + 1), .int 1], .tup [.int (t + (1 + r) - 1), .int (1 + r)], .tup [.int (t + (1 + r)), .int (1 + r)], .tup [.int (t + (1 + r) + 1), .int (1 + r)]] = (es ++ [(t, 1), (t + 1, 1), (t + (1 + r) - 1, 1 + r), (t + (1 + r), 1 + r), (t + (1 + r) + 1, 1 + r)]).map prD := by simp [prD]
    rw [ee]
    refine edges_loop m gs (by simp; omega) fun es' d11 d12 d13 d14 d15 d16 h1 h2 => h es' d11 d12 d13 d14 d15 d16 (by rw [h1]; simp; omega) ?_
    cases es with
    | nil => exact .inr rfl
    | cons e0 es => exact .inl (h2.elim (fun z => by rw [z]; rfl) fun z => by simp at z)
theorem ask_loop {D' : EV} (m : Made k pool c d p L K) : ∀ (es : List (Int × Int)) {c10 c11 c12 c13 c14 c15 c16 c17 c18 : Cell},
    (∀ (d11 d12 : Cell), D'.nx [c0, .val .hnd, .val (.int k), c3, .val (.tup (c.map tI)), .val (.int d), .val (.int p), .val (tI L), .val (tI K), c9, c10, d11, d12, c13, c14, c15, c16, c17, c18]) →
    forV (gTupV 2 (gConsV (gV 11) (gConsV (gV 12) gNilV))) W_law_L1 (es.map prD) D' [c0, .val .hnd, .val (.int k), c3, .val (.tup (c.map tI)), .val (.int d), .val (.int p), .val (tI L), .val (tI K), c9, c10, c11, c12, c13, c14, c15, c16, c17, c18]
  | [], _, _, _, _, _, _, _, _, _, h => h _ _
  | e :: es, c10, c11, c12, c13, c14, c15, c16, c17, c18, h => by
    rw [List.map_cons, forV]
    simp only [prD]
    generalize hF : forV (gTupV 2 (gConsV (gV 11) (gConsV (gV 12) gNilV))) W_law_L1 (es.map prD) D' = F
    have hn : ∀ c11 c12, F [c0, .val .hnd, .val (.int k), c3, .val (.tup (c.map tI)), .val (.int d), .val (.int p), .val (tI L), .val (tI K), c9, c10, c11, c12, c13, c14, c15, c16, c17, c18] := fun c11 c12 => by
      rw [← hF]
      exact ask_loop m es h
    obtain ⟨g, need⟩ := e
    have hL : L.length ≤ 24 := by have := m.hL; omega
    have hp : p < c.length := by have := m.hd; omega
    simp [W_law_L1, hn]
    refine ⟨fun h1 => ?_, fun h1 h2 => absurd h2 (by omega)⟩
    refine ⟨fun h2 => asked_ok m.crs (m.nm ⟨by omega, h1⟩) hL ?_, fun h2 h3 h4 => absurd h4 (by omega)⟩
    simp
    intro _ _ r r0 r1 r2
    refine asked_having_ok m.crs (m.nm ⟨by omega, h1⟩) hL hp ?_
    simp
end
end K27

namespace K27
open PySem PySem.Spec PyProof.Rows L2 Hl Vl
theorem law_true : ∀ ns : List Int, ns.length ≤ 63 → W_law [.scr ns] fun d => d = .bl true := by
  intro ns hns
  have z1 : (1 : Nat) ≤ sizeLine := by rw [sizeLine_eq]; omega
  have z2 : (2 : Nat) ≤ sizeLine := by rw [sizeLine_eq]; omega
  simp [W_law, hns, z1, z2, -forV, -lcV]
  refine made_ok fun k pool c d p L K m => ?_
  have hk := m.hk
  have hlen := m.len
  have hd := m.hd
  have hC := m.crs
  have hL : L.length ≤ 24 := by have := m.hL; omega
  simp [-forV, -lcV]
  intro r0 r00 r01
  have hlagN : ∃ n : Nat, min 200 ((c.length : Int) - p + r0) = n := ⟨(min 200 ((c.length : Int) - p + r0)).toNat, by omega⟩
  obtain ⟨lag, hlag⟩ := hlagN
  rw [hlag]
  have hlag2 : 1 ≤ lag ∧ lag ≤ 200 := by omega
  refine ⟨fun _ => ⟨by omega, by omega, fun r1 r10 r11 => asked_ok hC ⟨hk, by omega, by omega, m.hK⟩ hL ?_⟩, fun _ => ?_⟩
  · simp only [true_and, forall_const]
    refine ⟨by omega, by omega, fun r2 r20 r21 => ⟨by omega, by omega, fun r3 r30 r31 => ?_⟩⟩
    refine edges_loop m [1 + r3, k] (es := [(1 + r2, 1)]) (by simp) fun es d11 d12 d13 d14 d15 d16 h1 h2 => ?_
    have e0 : ∃ rest, es = (1 + r2, 1) :: rest := by
      cases es with
      | nil => simp at h1
      | cons x rest => exact ⟨rest, by simpa using h2⟩
    obtain ⟨es', rfl⟩ := e0
    simp at h1
    simp [-forV, -lcV]
    refine ⟨fun hbig => ?_, fun hsmall => ?_⟩
    · rw [← List.map_cons]
      refine lc_v prD (fun e => decide (e.1 ≤ k) && decide (0 < e.1)) prD _ [] (fun x hx A' B' k1 k2 => ?_) rfl (by rw [sizeLine_eq]; simp; omega) ?_
      · have ax : atI [D.int x.1, D.int x.2] 0 = some (.int x.1) := rfl
        simp [prD, ax] at k1 k2 ⊢
        exact ⟨fun h => ⟨fun h' => k1 h h', fun h' => k2 fun _ => h'⟩, fun h => k2 fun h' => absurd h' (by omega)⟩
      rw [List.nil_append]
      simp [-forV, -lcV]
      refine pick_D ?_ ?_ fun x hx => ?_
      · have e1 : (1 + r2 ≤ k) := by omega
        have e2 : (0 < 1 + r2) := by omega
        simp [List.filter_cons, e1, e2]
      · refine Nat.le_trans (Nat.le_of_eq (List.length_map ..)) (Nat.le_trans (List.length_filter_le ..) ?_)
        simp; omega
      · obtain ⟨e, he, rfl⟩ := List.mem_map.1 hx
        have hee := (List.mem_filter.1 he).2
        rw [Bool.and_eq_true, decide_eq_true_eq, decide_eq_true_eq] at hee
        simp [prD]
        refine asked_ok hC (m.nm ⟨by omega, hee.1⟩) hL ?_
        simp
    · rw [← List.map_cons]
      refine ask_loop m _ fun d11 d12 => ?_
      obtain ⟨cp, ecp⟩ := opt_get (l := c) (i := p) (by omega)
      have ax : atI (((1 + r2, (1 : Int)) :: es').map prD) 0 = some (prD (1 + r2, 1)) := atI_nat (j := 0) rfl
      have ay : atI [D.int (1 + r2), D.int 1] 0 = some (.int (1 + r2)) := rfl
      have hg : 1 ≤ 1 + r2 ∧ 1 + r2 ≤ k := by omega
      simp [-forV, -lcV, -List.map_cons, ax, prD, ay, at_c ecp]
      refine asked_ok (L := []) hC (m.nm hg) (by simp) ?_
      simp [-forV, -lcV, -List.map_cons, at_c ecp]
      refine asked_ok hC (m.nm hg) (hC.sm _ (List.mem_of_getElem? ecp)) ?_
      obtain ⟨ini, la, hla⟩ : ∃ ini la, c = ini ++ [la] := ⟨c.dropLast, c.getLast (by intro z; rw [z] at hlen; simp at hlen), (List.dropLast_concat_getLast _).symm⟩
      have al : atI (c.map tI) (-1) = some (tI la) := by rw [hla]; exact atI_last
      have hlm := m.lot la (by rw [hla]; simp)
      have hll := hlm.len
      have hl1 : ((c.length : Int) - 1) = ((c.length - 1 : Nat) : Int) := by omega
      simp [-forV, -lcV, al]
      refine some_ok (.inl rfl) hlm.nd ⟨by omega, by omega⟩ (by omega) fun K' m1 m2 m3 => ?_
      rw [hl1]
      refine asked_ok hC ⟨hk, (m.nm hg).hd, hg, by omega⟩ hL ?_
      simp [-forV, -lcV]
      refine asked_having_ok hC (m.nm hg) hL (by omega) ?_
      simp [-forV, -lcV]
      intro r4 r40 r41
      exact asked_more_ok hC (m.nm hg) (by have := m.hL; omega) (by omega) m.hpool.1 m.hpool.2 rfl
  · refine ⟨by omega, by omega, fun r2 r20 r21 => ⟨by omega, by omega, fun r3 r30 r31 => ?_⟩⟩
    refine edges_loop m [1 + r3, k] (es := [(1 + r2, 1)]) (by simp) fun es d11 d12 d13 d14 d15 d16 h1 h2 => ?_
    have e0 : ∃ rest, es = (1 + r2, 1) :: rest := by
      cases es with
      | nil => simp at h1
      | cons x rest => exact ⟨rest, by simpa using h2⟩
    obtain ⟨es', rfl⟩ := e0
    simp at h1
    simp [-forV, -lcV]
    refine ⟨fun hbig => ?_, fun hsmall => ?_⟩
    · rw [← List.map_cons]
      refine lc_v prD (fun e => decide (e.1 ≤ k) && decide (0 < e.1)) prD _ [] (fun x hx A' B' k1 k2 => ?_) rfl (by rw [sizeLine_eq]; simp; omega) ?_
      · have ax : atI [D.int x.1, D.int x.2] 0 = some (.int x.1) := rfl
        simp [prD, ax] at k1 k2 ⊢
        exact ⟨fun h => ⟨fun h' => k1 h h', fun h' => k2 fun _ => h'⟩, fun h => k2 fun h' => absurd h' (by omega)⟩
      rw [List.nil_append]
      simp [-forV, -lcV]
      refine pick_D ?_ ?_ fun x hx => ?_
      · have e1 : (1 + r2 ≤ k) := by omega
        have e2 : (0 < 1 + r2) := by omega
        simp [List.filter_cons, e1, e2]
      · refine Nat.le_trans (Nat.le_of_eq (List.length_map ..)) (Nat.le_trans (List.length_filter_le ..) ?_)
        simp; omega
      · obtain ⟨e, he, rfl⟩ := List.mem_map.1 hx
        have hee := (List.mem_filter.1 he).2
        rw [Bool.and_eq_true, decide_eq_true_eq, decide_eq_true_eq] at hee
        simp [prD]
        refine asked_ok hC (m.nm ⟨by omega, hee.1⟩) hL ?_
        simp
    · rw [← List.map_cons]
      refine ask_loop m _ fun d11 d12 => ?_
      obtain ⟨cp, ecp⟩ := opt_get (l := c) (i := p) (by omega)
      have ax : atI (((1 + r2, (1 : Int)) :: es').map prD) 0 = some (prD (1 + r2, 1)) := atI_nat (j := 0) rfl
      have ay : atI [D.int (1 + r2), D.int 1] 0 = some (.int (1 + r2)) := rfl
      have hg : 1 ≤ 1 + r2 ∧ 1 + r2 ≤ k := by omega
      simp [-forV, -lcV, -List.map_cons, ax, prD, ay, at_c ecp]
      refine asked_ok (L := []) hC (m.nm hg) (by simp) ?_
      simp [-forV, -lcV, -List.map_cons, at_c ecp]
      refine asked_ok hC (m.nm hg) (hC.sm _ (List.mem_of_getElem? ecp)) ?_
      obtain ⟨ini, la, hla⟩ : ∃ ini la, c = ini ++ [la] := ⟨c.dropLast, c.getLast (by intro z; rw [z] at hlen; simp at hlen), (List.dropLast_concat_getLast _).symm⟩
      have al : atI (c.map tI) (-1) = some (tI la) := by rw [hla]; exact atI_last
      have hlm := m.lot la (by rw [hla]; simp)
      have hll := hlm.len
      have hl1 : ((c.length : Int) - 1) = ((c.length - 1 : Nat) : Int) := by omega
      simp [-forV, -lcV, al]
      refine some_ok (.inl rfl) hlm.nd ⟨by omega, by omega⟩ (by omega) fun K' m1 m2 m3 => ?_
      rw [hl1]
      refine asked_ok hC ⟨hk, (m.nm hg).hd, hg, by omega⟩ hL ?_
      simp [-forV, -lcV]
      refine asked_having_ok hC (m.nm hg) hL (by omega) ?_
      simp [-forV, -lcV]
      intro r4 r40 r41
      exact asked_more_ok hC (m.nm hg) (by have := m.hL; omega) (by omega) m.hpool.1 m.hpool.2 rfl
end K27

namespace K27
open PySem PySem.Spec PyProof.Rows L2 Hl Vl
theorem all_mk {l : PySem.W.OpenLaw} {w : World} {K : PySem.W.Frag} {h : Heap} {mg : Str → Option Value} {fa : Addr} (X : K.In h) (G : h.Ns mainGlobals mg) (hfa : mg "law" = some (.ref fa))
    {f_0 f_1 f_2 f_3 f_4 f_5 f_6 f_7 f_8 f_9 f_10 f_11 f_12 f_13 f_14 f_15 f_16 f_17 f_18 f_19 f_20 f_21 f_22 f_23 f_24 : Addr} {t_MOST_COPIES t_MOST_LAG t_MOST_PIECES : Tok} {C_Numbers C_Gone : Addr}
    {od_0 an_0 : Option Addr} {sl_0 : Array (Option Value)} {oc_0 kV_0 dc_0 pm_0 cd_0 ct_0 : Value}
    {od_1 an_1 : Option Addr} {sl_1 : Array (Option Value)} {oc_1 kV_1 dc_1 pm_1 cd_1 ct_1 : Value}
    {tT_1 : Addr} {ocT_1 : Value} {odT_1 : Option Addr} {slT_1 : Array (Option Value)} {nT_1 : Nat}
    {od_2 an_2 : Option Addr} {sl_2 : Array (Option Value)} {oc_2 kV_2 dc_2 pm_2 cd_2 ct_2 : Value}
    {od_3 an_3 : Option Addr} {sl_3 : Array (Option Value)} {oc_3 kV_3 dc_3 pm_3 cd_3 ct_3 : Value}
    {od_4 an_4 : Option Addr} {sl_4 : Array (Option Value)} {oc_4 kV_4 dc_4 pm_4 cd_4 ct_4 : Value}
    {od_5 an_5 : Option Addr} {sl_5 : Array (Option Value)} {oc_5 kV_5 dc_5 pm_5 cd_5 ct_5 : Value}
    {od_6 an_6 : Option Addr} {sl_6 : Array (Option Value)} {oc_6 kV_6 dc_6 pm_6 cd_6 ct_6 : Value}
    {od_7 an_7 : Option Addr} {sl_7 : Array (Option Value)} {oc_7 kV_7 dc_7 pm_7 cd_7 ct_7 : Value}
    {od_8 an_8 : Option Addr} {sl_8 : Array (Option Value)} {oc_8 kV_8 dc_8 pm_8 cd_8 ct_8 : Value}
    {od_9 an_9 : Option Addr} {sl_9 : Array (Option Value)} {oc_9 kV_9 dc_9 pm_9 cd_9 ct_9 : Value}
    {od_10 an_10 : Option Addr} {sl_10 : Array (Option Value)} {oc_10 kV_10 dc_10 pm_10 cd_10 ct_10 : Value}
    {od_11 an_11 : Option Addr} {sl_11 : Array (Option Value)} {oc_11 kV_11 dc_11 pm_11 cd_11 ct_11 : Value}
    {od_12 an_12 : Option Addr} {sl_12 : Array (Option Value)} {oc_12 kV_12 dc_12 pm_12 cd_12 ct_12 : Value}
    {od_13 an_13 : Option Addr} {sl_13 : Array (Option Value)} {oc_13 kV_13 dc_13 pm_13 cd_13 ct_13 : Value}
    {od_14 an_14 : Option Addr} {sl_14 : Array (Option Value)} {oc_14 kV_14 dc_14 pm_14 cd_14 ct_14 : Value}
    {od_15 an_15 : Option Addr} {sl_15 : Array (Option Value)} {oc_15 kV_15 dc_15 pm_15 cd_15 ct_15 : Value}
    {od_16 an_16 : Option Addr} {sl_16 : Array (Option Value)} {oc_16 kV_16 dc_16 pm_16 cd_16 ct_16 : Value}
    {od_17 an_17 : Option Addr} {sl_17 : Array (Option Value)} {oc_17 kV_17 dc_17 pm_17 cd_17 ct_17 : Value}
    {od_18 an_18 : Option Addr} {sl_18 : Array (Option Value)} {oc_18 kV_18 dc_18 pm_18 cd_18 ct_18 : Value}
    {od_19 an_19 : Option Addr} {sl_19 : Array (Option Value)} {oc_19 kV_19 dc_19 pm_19 cd_19 ct_19 : Value}
    {od_20 an_20 : Option Addr} {sl_20 : Array (Option Value)} {oc_20 kV_20 dc_20 pm_20 cd_20 ct_20 : Value}
    {od_21 an_21 : Option Addr} {sl_21 : Array (Option Value)} {oc_21 kV_21 dc_21 pm_21 cd_21 ct_21 : Value}
    {od_22 an_22 : Option Addr} {sl_22 : Array (Option Value)} {oc_22 kV_22 dc_22 pm_22 cd_22 ct_22 : Value}
    {od_23 an_23 : Option Addr} {sl_23 : Array (Option Value)} {oc_23 kV_23 dc_23 pm_23 cd_23 ct_23 : Value}
    {od_24 an_24 : Option Addr} {sl_24 : Array (Option Value)} {oc_24 kV_24 dc_24 pm_24 cd_24 ct_24 : Value}
    (z_abs : PySem.W.nsIn K mainGlobals "abs" = some none)
    (z_all : PySem.W.nsIn K mainGlobals "all" = some none)
    (z_any : PySem.W.nsIn K mainGlobals "any" = some none)
    (z_bool : PySem.W.nsIn K mainGlobals "bool" = some none)
    (z_enumerate : PySem.W.nsIn K mainGlobals "enumerate" = some none)
    (z_int : PySem.W.nsIn K mainGlobals "int" = some none)
    (z_isinstance : PySem.W.nsIn K mainGlobals "isinstance" = some none)
    (z_len : PySem.W.nsIn K mainGlobals "len" = some none)
    (z_list : PySem.W.nsIn K mainGlobals "list" = some none)
    (z_min : PySem.W.nsIn K mainGlobals "min" = some none)
    (z_range : PySem.W.nsIn K mainGlobals "range" = some none)
    (z_set : PySem.W.nsIn K mainGlobals "set" = some none)
    (z_sorted : PySem.W.nsIn K mainGlobals "sorted" = some none)
    (z_str : PySem.W.nsIn K mainGlobals "str" = some none)
    (z_sum : PySem.W.nsIn K mainGlobals "sum" = some none)
    (z_tuple : PySem.W.nsIn K mainGlobals "tuple" = some none)
    (z_zip : PySem.W.nsIn K mainGlobals "zip" = some none)
    (g_MOST_COPIES : PySem.W.nsIn K mainGlobals "MOST_COPIES" = some (some (.int 12 t_MOST_COPIES)))
    (g_MOST_LAG : PySem.W.nsIn K mainGlobals "MOST_LAG" = some (some (.int 200 t_MOST_LAG)))
    (g_MOST_PIECES : PySem.W.nsIn K mainGlobals "MOST_PIECES" = some (some (.int 6 t_MOST_PIECES)))
    (aC_Numbers : PySem.W.nsIn K mainGlobals "Numbers" = some (some (.ref C_Numbers)))
    (pg_Numbers : PySem.W.plainGet K C_Numbers Str.empty = true)
    (hd_Numbers : PySem.W.hasDictIn K C_Numbers = true)
    (po_Numbers : PySem.W.plainOver K C_Numbers = true)
    (sa_Numbers : PySem.W.findIn K (.ref C_Numbers) "__setattr__" = some (some (.builtin "object.__setattr__")))
    (mk_Numbers : PySem.W.makesIn K C_Numbers = true)
    (kc_Numbers : PySem.W.keepIn K (.ref C_Numbers) = true)
    (n_Numbers_k : PySem.W.findIn K (.ref C_Numbers) "k" = some none)
    (n_Numbers_f : PySem.W.findIn K (.ref C_Numbers) "f" = some none)
    (n_Numbers_d : PySem.W.findIn K (.ref C_Numbers) "d" = some none)
    (n_Numbers_m : PySem.W.findIn K (.ref C_Numbers) "m" = some none)
    (n_Numbers_w1 : PySem.W.findIn K (.ref C_Numbers) "w1" = some none)
    (n_Numbers_w2 : PySem.W.findIn K (.ref C_Numbers) "w2" = some none)
    (n_Numbers_g : PySem.W.findIn K (.ref C_Numbers) "g" = some none)
    (aC_Gone : PySem.W.nsIn K mainGlobals "Gone" = some (some (.ref C_Gone)))
    (pg_Gone : PySem.W.plainGet K C_Gone Str.empty = true)
    (hd_Gone : PySem.W.hasDictIn K C_Gone = true)
    (po_Gone : PySem.W.plainOver K C_Gone = true)
    (sa_Gone : PySem.W.findIn K (.ref C_Gone) "__setattr__" = some (some (.builtin "object.__setattr__")))
    (mk_Gone : PySem.W.makesIn K C_Gone = true)
    (kc_Gone : PySem.W.keepIn K (.ref C_Gone) = true)
    (n_Gone_p : PySem.W.findIn K (.ref C_Gone) "p" = some none)
    (n_Gone_q : PySem.W.findIn K (.ref C_Gone) "q" = some none)
    (n_Gone_liars : PySem.W.findIn K (.ref C_Gone) "liars" = some none)
    (n_Gone_keepers : PySem.W.findIn K (.ref C_Gone) "keepers" = some none)
    (a_0 : PySem.W.nsIn K mainGlobals "is_integer" = some (some (.ref f_0)))
    (l_0 : K.lookup f_0 = some ⟨oc_0, od_0, .func (PySem.W.fnOf "is_integer" "is_integer" (defArgs s_is_integer) (defBody s_is_integer) (defScope s_is_integer) .none kV_0 dc_0 pm_0 an_0 cd_0 ct_0), sl_0⟩)
    (c_0 : PySem.W.codeIn K cd_0 "is_integer" = true)
    (k_0 : PySem.W.keepIn K (.ref f_0) = true)
    (a_1 : PySem.W.nsIn K mainGlobals "is_number" = some (some (.ref f_1)))
    (l_1 : K.lookup f_1 = some ⟨oc_1, od_1, .func (PySem.W.fnOf "is_number" "is_number" (defArgs s_is_number) (defBody s_is_number) (defScope s_is_number) (.ref tT_1) kV_1 dc_1 pm_1 an_1 cd_1 ct_1), sl_1⟩)
    (c_1 : PySem.W.codeIn K cd_1 "is_number" = true)
    (k_1 : PySem.W.keepIn K (.ref f_1) = true)
    (t_1 : K.lookup tT_1 = some ⟨ocT_1, odT_1, .seq ([.none] : List Value).toArray nT_1, slT_1⟩)
    (a_2 : PySem.W.nsIn K mainGlobals "comers" = some (some (.ref f_2)))
    (l_2 : K.lookup f_2 = some ⟨oc_2, od_2, .func (PySem.W.fnOf "comers" "comers" (defArgs s_comers) (defBody s_comers) (defScope s_comers) .none kV_2 dc_2 pm_2 an_2 cd_2 ct_2), sl_2⟩)
    (c_2 : PySem.W.codeIn K cd_2 "comers" = true)
    (k_2 : PySem.W.keepIn K (.ref f_2) = true)
    (a_3 : PySem.W.nsIn K mainGlobals "in_both" = some (some (.ref f_3)))
    (l_3 : K.lookup f_3 = some ⟨oc_3, od_3, .func (PySem.W.fnOf "in_both" "in_both" (defArgs s_in_both) (defBody s_in_both) (defScope s_in_both) .none kV_3 dc_3 pm_3 an_3 cd_3 ct_3), sl_3⟩)
    (c_3 : PySem.W.codeIn K cd_3 "in_both" = true)
    (k_3 : PySem.W.keepIn K (.ref f_3) = true)
    (a_4 : PySem.W.nsIn K mainGlobals "lot_without" = some (some (.ref f_4)))
    (l_4 : K.lookup f_4 = some ⟨oc_4, od_4, .func (PySem.W.fnOf "lot_without" "lot_without" (defArgs s_lot_without) (defBody s_lot_without) (defScope s_lot_without) .none kV_4 dc_4 pm_4 an_4 cd_4 ct_4), sl_4⟩)
    (c_4 : PySem.W.codeIn K cd_4 "lot_without" = true)
    (k_4 : PySem.W.keepIn K (.ref f_4) = true)
    (a_5 : PySem.W.nsIn K mainGlobals "line_from" = some (some (.ref f_5)))
    (l_5 : K.lookup f_5 = some ⟨oc_5, od_5, .func (PySem.W.fnOf "line_from" "line_from" (defArgs s_line_from) (defBody s_line_from) (defScope s_line_from) .none kV_5 dc_5 pm_5 an_5 cd_5 ct_5), sl_5⟩)
    (c_5 : PySem.W.codeIn K cd_5 "line_from" = true)
    (k_5 : PySem.W.keepIn K (.ref f_5) = true)
    (a_6 : PySem.W.nsIn K mainGlobals "blanks" = some (some (.ref f_6)))
    (l_6 : K.lookup f_6 = some ⟨oc_6, od_6, .func (PySem.W.fnOf "blanks" "blanks" (defArgs s_blanks) (defBody s_blanks) (defScope s_blanks) .none kV_6 dc_6 pm_6 an_6 cd_6 ct_6), sl_6⟩)
    (c_6 : PySem.W.codeIn K cd_6 "blanks" = true)
    (k_6 : PySem.W.keepIn K (.ref f_6) = true)
    (a_7 : PySem.W.nsIn K mainGlobals "open_words" = some (some (.ref f_7)))
    (l_7 : K.lookup f_7 = some ⟨oc_7, od_7, .func (PySem.W.fnOf "open_words" "open_words" (defArgs s_open_words) (defBody s_open_words) (defScope s_open_words) .none kV_7 dc_7 pm_7 an_7 cd_7 ct_7), sl_7⟩)
    (c_7 : PySem.W.codeIn K cd_7 "open_words" = true)
    (k_7 : PySem.W.keepIn K (.ref f_7) = true)
    (a_8 : PySem.W.nsIn K mainGlobals "having_from" = some (some (.ref f_8)))
    (l_8 : K.lookup f_8 = some ⟨oc_8, od_8, .func (PySem.W.fnOf "having_from" "having_from" (defArgs s_having_from) (defBody s_having_from) (defScope s_having_from) .none kV_8 dc_8 pm_8 an_8 cd_8 ct_8), sl_8⟩)
    (c_8 : PySem.W.codeIn K cd_8 "having_from" = true)
    (k_8 : PySem.W.keepIn K (.ref f_8) = true)
    (a_9 : PySem.W.findIn K (.ref C_Numbers) "__init__" = some (some (.ref f_9)))
    (i_9 : PySem.W.isFn K (.ref f_9) = true)
    (l_9 : K.lookup f_9 = some ⟨oc_9, od_9, .func (PySem.W.fnOf "__init__" "Numbers.__init__" (defArgs s_Numbers_init) (defBody s_Numbers_init) (defScope s_Numbers_init) .none kV_9 dc_9 pm_9 an_9 cd_9 ct_9), sl_9⟩)
    (c_9 : PySem.W.codeIn K cd_9 "Numbers.__init__" = true)
    (k_9 : PySem.W.keepIn K (.ref f_9) = true)
    (a_10 : PySem.W.findIn K (.ref C_Gone) "__init__" = some (some (.ref f_10)))
    (i_10 : PySem.W.isFn K (.ref f_10) = true)
    (l_10 : K.lookup f_10 = some ⟨oc_10, od_10, .func (PySem.W.fnOf "__init__" "Gone.__init__" (defArgs s_Gone_init) (defBody s_Gone_init) (defScope s_Gone_init) .none kV_10 dc_10 pm_10 an_10 cd_10 ct_10), sl_10⟩)
    (c_10 : PySem.W.codeIn K cd_10 "Gone.__init__" = true)
    (k_10 : PySem.W.keepIn K (.ref f_10) = true)
    (a_11 : PySem.W.nsIn K mainGlobals "having" = some (some (.ref f_11)))
    (l_11 : K.lookup f_11 = some ⟨oc_11, od_11, .func (PySem.W.fnOf "having" "having" (defArgs s_having) (defBody s_having) (defScope s_having) .none kV_11 dc_11 pm_11 an_11 cd_11 ct_11), sl_11⟩)
    (c_11 : PySem.W.codeIn K cd_11 "having" = true)
    (k_11 : PySem.W.keepIn K (.ref f_11) = true)
    (a_12 : PySem.W.nsIn K mainGlobals "_law_heap" = some (some (.ref f_12)))
    (l_12 : K.lookup f_12 = some ⟨oc_12, od_12, .func (PySem.W.fnOf "_law_heap" "_law_heap" (defArgs s__law_heap) (defBody s__law_heap) (defScope s__law_heap) .none kV_12 dc_12 pm_12 an_12 cd_12 ct_12), sl_12⟩)
    (c_12 : PySem.W.codeIn K cd_12 "_law_heap" = true)
    (k_12 : PySem.W.keepIn K (.ref f_12) = true)
    (a_13 : PySem.W.nsIn K mainGlobals "_law_draw" = some (some (.ref f_13)))
    (l_13 : K.lookup f_13 = some ⟨oc_13, od_13, .func (PySem.W.fnOf "_law_draw" "_law_draw" (defArgs s__law_draw) (defBody s__law_draw) (defScope s__law_draw) .none kV_13 dc_13 pm_13 an_13 cd_13 ct_13), sl_13⟩)
    (c_13 : PySem.W.codeIn K cd_13 "_law_draw" = true)
    (k_13 : PySem.W.keepIn K (.ref f_13) = true)
    (a_14 : PySem.W.nsIn K mainGlobals "_law_pick" = some (some (.ref f_14)))
    (l_14 : K.lookup f_14 = some ⟨oc_14, od_14, .func (PySem.W.fnOf "_law_pick" "_law_pick" (defArgs s__law_pick) (defBody s__law_pick) (defScope s__law_pick) .none kV_14 dc_14 pm_14 an_14 cd_14 ct_14), sl_14⟩)
    (c_14 : PySem.W.codeIn K cd_14 "_law_pick" = true)
    (k_14 : PySem.W.keepIn K (.ref f_14) = true)
    (a_15 : PySem.W.nsIn K mainGlobals "_law_like" = some (some (.ref f_15)))
    (l_15 : K.lookup f_15 = some ⟨oc_15, od_15, .func (PySem.W.fnOf "_law_like" "_law_like" (defArgs s__law_like) (defBody s__law_like) (defScope s__law_like) .none kV_15 dc_15 pm_15 an_15 cd_15 ct_15), sl_15⟩)
    (c_15 : PySem.W.codeIn K cd_15 "_law_like" = true)
    (k_15 : PySem.W.keepIn K (.ref f_15) = true)
    (a_16 : PySem.W.nsIn K mainGlobals "_law_some" = some (some (.ref f_16)))
    (l_16 : K.lookup f_16 = some ⟨oc_16, od_16, .func (PySem.W.fnOf "_law_some" "_law_some" (defArgs s__law_some) (defBody s__law_some) (defScope s__law_some) .none kV_16 dc_16 pm_16 an_16 cd_16 ct_16), sl_16⟩)
    (c_16 : PySem.W.codeIn K cd_16 "_law_some" = true)
    (k_16 : PySem.W.keepIn K (.ref f_16) = true)
    (a_17 : PySem.W.nsIn K mainGlobals "_law_course" = some (some (.ref f_17)))
    (l_17 : K.lookup f_17 = some ⟨oc_17, od_17, .func (PySem.W.fnOf "_law_course" "_law_course" (defArgs s__law_course) (defBody s__law_course) (defScope s__law_course) .none kV_17 dc_17 pm_17 an_17 cd_17 ct_17), sl_17⟩)
    (c_17 : PySem.W.codeIn K cd_17 "_law_course" = true)
    (k_17 : PySem.W.keepIn K (.ref f_17) = true)
    (a_18 : PySem.W.nsIn K mainGlobals "_law_line" = some (some (.ref f_18)))
    (l_18 : K.lookup f_18 = some ⟨oc_18, od_18, .func (PySem.W.fnOf "_law_line" "_law_line" (defArgs s__law_line) (defBody s__law_line) (defScope s__law_line) .none kV_18 dc_18 pm_18 an_18 cd_18 ct_18), sl_18⟩)
    (c_18 : PySem.W.codeIn K cd_18 "_law_line" = true)
    (k_18 : PySem.W.keepIn K (.ref f_18) = true)
    (a_19 : PySem.W.nsIn K mainGlobals "_law_made" = some (some (.ref f_19)))
    (l_19 : K.lookup f_19 = some ⟨oc_19, od_19, .func (PySem.W.fnOf "_law_made" "_law_made" (defArgs s__law_made) (defBody s__law_made) (defScope s__law_made) .none kV_19 dc_19 pm_19 an_19 cd_19 ct_19), sl_19⟩)
    (c_19 : PySem.W.codeIn K cd_19 "_law_made" = true)
    (k_19 : PySem.W.keepIn K (.ref f_19) = true)
    (a_20 : PySem.W.nsIn K mainGlobals "_law_asked" = some (some (.ref f_20)))
    (l_20 : K.lookup f_20 = some ⟨oc_20, od_20, .func (PySem.W.fnOf "_law_asked" "_law_asked" (defArgs s__law_asked) (defBody s__law_asked) (defScope s__law_asked) .none kV_20 dc_20 pm_20 an_20 cd_20 ct_20), sl_20⟩)
    (c_20 : PySem.W.codeIn K cd_20 "_law_asked" = true)
    (k_20 : PySem.W.keepIn K (.ref f_20) = true)
    (a_21 : PySem.W.nsIn K mainGlobals "_law_due_having" = some (some (.ref f_21)))
    (l_21 : K.lookup f_21 = some ⟨oc_21, od_21, .func (PySem.W.fnOf "_law_due_having" "_law_due_having" (defArgs s__law_due_having) (defBody s__law_due_having) (defScope s__law_due_having) .none kV_21 dc_21 pm_21 an_21 cd_21 ct_21), sl_21⟩)
    (c_21 : PySem.W.codeIn K cd_21 "_law_due_having" = true)
    (k_21 : PySem.W.keepIn K (.ref f_21) = true)
    (a_22 : PySem.W.nsIn K mainGlobals "_law_asked_having" = some (some (.ref f_22)))
    (l_22 : K.lookup f_22 = some ⟨oc_22, od_22, .func (PySem.W.fnOf "_law_asked_having" "_law_asked_having" (defArgs s__law_asked_having) (defBody s__law_asked_having) (defScope s__law_asked_having) .none kV_22 dc_22 pm_22 an_22 cd_22 ct_22), sl_22⟩)
    (c_22 : PySem.W.codeIn K cd_22 "_law_asked_having" = true)
    (k_22 : PySem.W.keepIn K (.ref f_22) = true)
    (a_23 : PySem.W.nsIn K mainGlobals "_law_asked_more" = some (some (.ref f_23)))
    (l_23 : K.lookup f_23 = some ⟨oc_23, od_23, .func (PySem.W.fnOf "_law_asked_more" "_law_asked_more" (defArgs s__law_asked_more) (defBody s__law_asked_more) (defScope s__law_asked_more) .none kV_23 dc_23 pm_23 an_23 cd_23 ct_23), sl_23⟩)
    (c_23 : PySem.W.codeIn K cd_23 "_law_asked_more" = true)
    (k_23 : PySem.W.keepIn K (.ref f_23) = true)
    (a_24 : PySem.W.nsIn K mainGlobals "law" = some (some (.ref f_24)))
    (l_24 : K.lookup f_24 = some ⟨oc_24, od_24, .func (PySem.W.fnOf "law" "law" (defArgs s_law) (defBody s_law) (defScope s_law) .none kV_24 dc_24 pm_24 an_24 cd_24 ct_24), sl_24⟩)
    (c_24 : PySem.W.codeIn K cd_24 "law" = true)
    (k_24 : PySem.W.keepIn K (.ref f_24) = true)
    : ∃ fd : FuncData, (∀ (s : Shared) (v : Value), BindsTo s fd ⟨[v], []⟩ [("script", v)]) ∧ ∀ base : Heap, K.In base → base.Ns mainGlobals mg → FnOk l.prog w K mg base CX0 6 fa fd ["script"] (Vl.sp_law K) := by
  have e := hfa.symm.trans (PySem.W.mg_of X G a_24)
  cases e
  have F_is_integer := fun_mk (st := s_is_integer) l_0 c_0 k_0
  have b_is_integer := F_is_integer.binds (ps := ["value"]) fun _ _ _ _ _ _ us hl => match us, hl with | [_], _ => rfl
  have F_is_number : FunD K "is_number" "is_number" (defArgs s_is_number) (defBody s_is_number) (defScope s_is_number) [.non] [] f_1 _ := ⟨⟨_, _, _, _, _, _, _, _, _, _, rfl, l_1, c_1, .inr ⟨by simp, _, _, _, _, rfl, t_1, rfl, .cons rfl (.nil)⟩, .inl rfl⟩, k_1⟩
  obtain ⟨ds_is_number_0, hds_is_number_0, b_is_number_0⟩ := F_is_number.binds1 (ps := ["value", "most"]) 2 1 (by simp) (by rfl) (fun _ _ _ _ _ _ _ us its hl hi => match us, its, hl, hi with | [_, _], [_], _, _ => ⟨_, rfl, rfl⟩)
  cases hds_is_number_0
  have b_is_number := b_is_number_0
  have F_comers := fun_mk (st := s_comers) l_2 c_2 k_2
  have b_comers := F_comers.binds (ps := ["course", "i"]) fun _ _ _ _ _ _ us hl => match us, hl with | [_, _], _ => rfl
  have F_in_both := fun_mk (st := s_in_both) l_3 c_3 k_3
  have b_in_both := F_in_both.binds (ps := ["one", "other"]) fun _ _ _ _ _ _ us hl => match us, hl with | [_, _], _ => rfl
  have F_line_from := fun_mk (st := s_line_from) l_5 c_5 k_5
  have b_line_from := F_line_from.binds (ps := ["course", "numbers", "p", "liars", "keepers", "need"]) fun _ _ _ _ _ _ us hl => match us, hl with | [_, _, _, _, _, _], _ => rfl
  have F_blanks := fun_mk (st := s_blanks) l_6 c_6 k_6
  have b_blanks := F_blanks.binds (ps := ["course", "numbers", "p", "liars", "keepers", "need"]) fun _ _ _ _ _ _ us hl => match us, hl with | [_, _, _, _, _, _], _ => rfl
  have F_open_words := fun_mk (st := s_open_words) l_7 c_7 k_7
  have b_open_words := F_open_words.binds (ps := ["course", "numbers", "p", "liars", "keepers", "need"]) fun _ _ _ _ _ _ us hl => match us, hl with | [_, _, _, _, _, _], _ => rfl
  have F_having_from := fun_mk (st := s_having_from) l_8 c_8 k_8
  have b_having_from := F_having_from.binds (ps := ["course", "numbers", "p", "liars", "keepers"]) fun _ _ _ _ _ _ us hl => match us, hl with | [_, _, _, _, _], _ => rfl
  have F_Numbers_init := fun_mk (st := s_Numbers_init) l_9 c_9 k_9
  have b_Numbers_init := F_Numbers_init.binds (ps := ["self", "k", "f", "d", "m", "w1", "w2", "g"]) fun _ _ _ _ _ _ us hl => match us, hl with | [_, _, _, _, _, _, _, _], _ => rfl
  have F_Gone_init := fun_mk (st := s_Gone_init) l_10 c_10 k_10
  have b_Gone_init := F_Gone_init.binds (ps := ["self", "p", "q", "liars", "keepers"]) fun _ _ _ _ _ _ us hl => match us, hl with | [_, _, _, _, _], _ => rfl
  have F_having := fun_mk (st := s_having) l_11 c_11 k_11
  have b_having := F_having.binds (ps := ["course", "numbers", "plan"]) fun _ _ _ _ _ _ us hl => match us, hl with | [_, _, _], _ => rfl
  have F__law_heap := fun_mk (st := s__law_heap) l_12 c_12 k_12
  have b__law_heap := F__law_heap.binds (ps := ["script"]) fun _ _ _ _ _ _ us hl => match us, hl with | [_], _ => rfl
  have F__law_draw := fun_mk (st := s__law_draw) l_13 c_13 k_13
  have b__law_draw := F__law_draw.binds (ps := ["heap", "many"]) fun _ _ _ _ _ _ us hl => match us, hl with | [_, _], _ => rfl
  have F__law_pick := fun_mk (st := s__law_pick) l_14 c_14 k_14
  have b__law_pick := F__law_pick.binds (ps := ["heap", "some"]) fun _ _ _ _ _ _ us hl => match us, hl with | [_, _], _ => rfl
  have F__law_like := fun_mk (st := s__law_like) l_15 c_15 k_15
  have b__law_like := F__law_like.binds (ps := ["told", "due"]) fun _ _ _ _ _ _ us hl => match us, hl with | [_, _], _ => rfl
  have F__law_some := fun_mk (st := s__law_some) l_16 c_16 k_16
  have b__law_some := F__law_some.binds (ps := ["heap", "pool", "many"]) fun _ _ _ _ _ _ us hl => match us, hl with | [_, _, _], _ => rfl
  have F__law_course := fun_mk (st := s__law_course) l_17 c_17 k_17
  have b__law_course := F__law_course.binds (ps := ["heap", "pool", "k", "words"]) fun _ _ _ _ _ _ us hl => match us, hl with | [_, _, _, _], _ => rfl
  have F__law_line := fun_mk (st := s__law_line) l_18 c_18 k_18
  have b__law_line := F__law_line.binds (ps := ["course", "d", "g", "need", "p", "liars", "keepers"]) fun _ _ _ _ _ _ us hl => match us, hl with | [_, _, _, _, _, _, _], _ => rfl
  have F__law_made := fun_mk (st := s__law_made) l_19 c_19 k_19
  have b__law_made := F__law_made.binds (ps := ["heap"]) fun _ _ _ _ _ _ us hl => match us, hl with | [_], _ => rfl
  have F__law_asked := fun_mk (st := s__law_asked) l_20 c_20 k_20
  have b__law_asked := F__law_asked.binds (ps := ["course", "k", "d", "g", "need", "p", "liars", "keepers"]) fun _ _ _ _ _ _ us hl => match us, hl with | [_, _, _, _, _, _, _, _], _ => rfl
  have F__law_due_having := fun_mk (st := s__law_due_having) l_21 c_21 k_21
  have b__law_due_having := F__law_due_having.binds (ps := ["course", "d", "g", "m", "p", "q", "liars", "keepers"]) fun _ _ _ _ _ _ us hl => match us, hl with | [_, _, _, _, _, _, _, _], _ => rfl
  have F__law_asked_having := fun_mk (st := s__law_asked_having) l_22 c_22 k_22
  have b__law_asked_having := F__law_asked_having.binds (ps := ["heap", "course", "k", "d", "g", "p", "liars", "keepers"]) fun _ _ _ _ _ _ us hl => match us, hl with | [_, _, _, _, _, _, _, _], _ => rfl
  have F__law_asked_more := fun_mk (st := s__law_asked_more) l_23 c_23 k_23
  have b__law_asked_more := F__law_asked_more.binds (ps := ["heap", "course", "k", "d", "g", "need", "p", "liars", "keepers", "pool"]) fun _ _ _ _ _ _ us hl => match us, hl with | [_, _, _, _, _, _, _, _, _, _], _ => rfl
  have F_law := fun_mk (st := s_law) l_24 c_24 k_24
  have b_law := F_law.binds (ps := ["script"]) fun _ _ _ _ _ _ us hl => match us, hl with | [_], _ => rfl
  let T : Txt K mg := ⟨PySem.W.mg_none_of X G z_abs, PySem.W.mg_none_of X G z_all, PySem.W.mg_none_of X G z_any, PySem.W.mg_none_of X G z_bool, PySem.W.mg_none_of X G z_enumerate, PySem.W.mg_none_of X G z_int, PySem.W.mg_none_of X G z_isinstance, PySem.W.mg_none_of X G z_len, PySem.W.mg_none_of X G z_list, PySem.W.mg_none_of X G z_min, PySem.W.mg_none_of X G z_range, PySem.W.mg_none_of X G z_set, PySem.W.mg_none_of X G z_sorted, PySem.W.mg_none_of X G z_str, PySem.W.mg_none_of X G z_sum, PySem.W.mg_none_of X G z_tuple, PySem.W.mg_none_of X G z_zip, t_MOST_COPIES, PySem.W.mg_of X G g_MOST_COPIES, t_MOST_LAG, PySem.W.mg_of X G g_MOST_LAG, t_MOST_PIECES, PySem.W.mg_of X G g_MOST_PIECES, C_Numbers, f_9, PySem.W.mg_of X G aC_Numbers, ⟨mk_Numbers, a_9, i_9, kc_Numbers⟩, ⟨pg_Numbers, hd_Numbers, po_Numbers, sa_Numbers⟩, noat (PySem.W.mg_of X G aC_Numbers) n_Numbers_k, noat (PySem.W.mg_of X G aC_Numbers) n_Numbers_f, noat (PySem.W.mg_of X G aC_Numbers) n_Numbers_d, noat (PySem.W.mg_of X G aC_Numbers) n_Numbers_m, noat (PySem.W.mg_of X G aC_Numbers) n_Numbers_w1, noat (PySem.W.mg_of X G aC_Numbers) n_Numbers_w2, noat (PySem.W.mg_of X G aC_Numbers) n_Numbers_g, C_Gone, f_10, PySem.W.mg_of X G aC_Gone, ⟨mk_Gone, a_10, i_10, kc_Gone⟩, ⟨pg_Gone, hd_Gone, po_Gone, sa_Gone⟩, noat (PySem.W.mg_of X G aC_Gone) n_Gone_p, noat (PySem.W.mg_of X G aC_Gone) n_Gone_q, noat (PySem.W.mg_of X G aC_Gone) n_Gone_liars, noat (PySem.W.mg_of X G aC_Gone) n_Gone_keepers⟩
  refine ⟨PySem.W.fnOf "law" "law" (defArgs s_law) (defBody s_law) (defScope s_law) .none kV_24 dc_24 pm_24 an_24 cd_24 ct_24, fun s v => .of_eq rfl, fun base _ _ => ?_⟩
  let D_is_integer : Df l.prog w K mg base 1 "is_integer" ["value"] (spV (gxOf K w mg) (W_is_integer)) := ⟨f_0, _, ok_is_integer F_is_integer T , PySem.W.mg_of X G a_0, k_0, b_is_integer⟩
  let D_is_number : Df l.prog w K mg base 2 "is_number" ["value", "most"] (spV (gxOf K w mg) (W_is_number)) := ⟨f_1, _, ok_is_number F_is_number T D_is_integer, PySem.W.mg_of X G a_1, k_1, b_is_number⟩
  let D_comers : Df l.prog w K mg base 1 "comers" ["course", "i"] (spV (gxOf K w mg) (W_comers)) := ⟨f_2, _, ok_comers F_comers T , PySem.W.mg_of X G a_2, k_2, b_comers⟩
  let D_in_both : Df l.prog w K mg base 1 "in_both" ["one", "other"] (spV (gxOf K w mg) (W_in_both)) := ⟨f_3, _, ok_in_both F_in_both T , PySem.W.mg_of X G a_3, k_3, b_in_both⟩
  let D_lot_without : DfR l.prog w K mg base 1 "lot_without" (spV (gxOf K w mg) (starW 1 W_lot_without)) := ⟨f_4, ok_lot_without l_4 c_4 (StX.bind_star1 (B := fun us => bindArgs _ ⟨us, []⟩) (fun _ => rfl) (fun _ _ _ => rfl)) T , PySem.W.mg_of X G a_4, k_4⟩
  let D_line_from : Df l.prog w K mg base 2 "line_from" ["course", "numbers", "p", "liars", "keepers", "need"] (spV (gxOf K w mg) (W_line_from)) := ⟨f_5, _, ok_line_from F_line_from T D_lot_without D_in_both D_comers, PySem.W.mg_of X G a_5, k_5, b_line_from⟩
  let D_blanks : Df l.prog w K mg base 3 "blanks" ["course", "numbers", "p", "liars", "keepers", "need"] (spV (gxOf K w mg) (W_blanks)) := ⟨f_6, _, ok_blanks F_blanks T D_line_from, PySem.W.mg_of X G a_6, k_6, b_blanks⟩
  let D_open_words : Df l.prog w K mg base 3 "open_words" ["course", "numbers", "p", "liars", "keepers", "need"] (spV (gxOf K w mg) (W_open_words)) := ⟨f_7, _, ok_open_words F_open_words T D_line_from, PySem.W.mg_of X G a_7, k_7, b_open_words⟩
  let D_having_from : Df l.prog w K mg base 3 "having_from" ["course", "numbers", "p", "liars", "keepers"] (spV (gxOf K w mg) (W_having_from)) := ⟨f_8, _, ok_having_from F_having_from T D_in_both D_lot_without D_line_from, PySem.W.mg_of X G a_8, k_8, b_having_from⟩
  have G_Numbers_init : FnOk l.prog w K mg base CX0 3 f_9 _ ["self", "k", "f", "d", "m", "w1", "w2", "g"] (spN (gxOf K w mg) "Numbers" W_Numbers_init) := ok_Numbers_init F_Numbers_init T D_is_number
  have G_Gone_init : FnOk l.prog w K mg base CX0 1 f_10 _ ["self", "p", "q", "liars", "keepers"] (spN (gxOf K w mg) "Gone" W_Gone_init) := ok_Gone_init F_Gone_init T 
  let D_having : Df l.prog w K mg base 4 "having" ["course", "numbers", "plan"] (spV (gxOf K w mg) (W_having)) := ⟨f_11, _, ok_having F_having T D_having_from, PySem.W.mg_of X G a_11, k_11, b_having⟩
  let D__law_heap : Df l.prog w K mg base 1 "_law_heap" ["script"] (spV (gxOf K w mg) (W__law_heap)) := ⟨f_12, _, (ok_heap F__law_heap T).imp fun _ _ _ _ h => heap_imp h, PySem.W.mg_of X G a_12, k_12, b__law_heap⟩
  let D__law_draw : Df l.prog w K mg base 1 "_law_draw" ["heap", "many"] (spV (gxOf K w mg) (W__law_draw)) := ⟨f_13, _, (ok_draw F__law_draw T).imp fun _ _ _ _ h => draw_imp h, PySem.W.mg_of X G a_13, k_13, b__law_draw⟩
  let D__law_pick : Df l.prog w K mg base 2 "_law_pick" ["heap", "some"] (spV (gxOf K w mg) (W__law_pick)) := ⟨f_14, _, ok__law_pick F__law_pick T D__law_draw, PySem.W.mg_of X G a_14, k_14, b__law_pick⟩
  let D__law_like_0 : Df l.prog w K mg base 0 "_law_like" ["told", "due"] (spV (gxOf K w mg) (W__law_like_at 0)) := ⟨f_15, _, nofn.imp fun _ _ _ _ h => by obtain ⟨_, _, _, _, _, _, h, _⟩ := h; exact h, PySem.W.mg_of X G a_15, k_15, b__law_like⟩
  let D__law_like_1 : Df l.prog w K mg base 1 "_law_like" ["told", "due"] (spV (gxOf K w mg) (W__law_like_at 1)) := ⟨f_15, _, ok__law_like_of F__law_like T  (by decide) D__law_like_0, PySem.W.mg_of X G a_15, k_15, b__law_like⟩
  let D__law_like_2 : Df l.prog w K mg base 2 "_law_like" ["told", "due"] (spV (gxOf K w mg) (W__law_like_at 2)) := ⟨f_15, _, ok__law_like_of F__law_like T  (by decide) D__law_like_1, PySem.W.mg_of X G a_15, k_15, b__law_like⟩
  let D__law_like_3 : Df l.prog w K mg base 3 "_law_like" ["told", "due"] (spV (gxOf K w mg) (W__law_like_at 3)) := ⟨f_15, _, ok__law_like_of F__law_like T  (by decide) D__law_like_2, PySem.W.mg_of X G a_15, k_15, b__law_like⟩
  let D__law_like_4 : Df l.prog w K mg base 4 "_law_like" ["told", "due"] (spV (gxOf K w mg) (W__law_like_at 4)) := ⟨f_15, _, ok__law_like_of F__law_like T  (by decide) D__law_like_3, PySem.W.mg_of X G a_15, k_15, b__law_like⟩
  let D__law_like := D__law_like_4
  let D__law_some : Df l.prog w K mg base 2 "_law_some" ["heap", "pool", "many"] (spV (gxOf K w mg) (W__law_some)) := ⟨f_16, _, ok__law_some F__law_some T D__law_draw, PySem.W.mg_of X G a_16, k_16, b__law_some⟩
  let D__law_course : Df l.prog w K mg base 3 "_law_course" ["heap", "pool", "k", "words"] (spV (gxOf K w mg) (W__law_course)) := ⟨f_17, _, ok__law_course F__law_course T D__law_some D__law_draw, PySem.W.mg_of X G a_17, k_17, b__law_course⟩
  let D__law_line : Df l.prog w K mg base 1 "_law_line" ["course", "d", "g", "need", "p", "liars", "keepers"] (spV (gxOf K w mg) (W__law_line)) := ⟨f_18, _, ok__law_line F__law_line T , PySem.W.mg_of X G a_18, k_18, b__law_line⟩
  let D__law_made : Df l.prog w K mg base 4 "_law_made" ["heap"] (spV (gxOf K w mg) (W__law_made)) := ⟨f_19, _, ok__law_made F__law_made T D__law_some D__law_course D__law_draw D__law_pick, PySem.W.mg_of X G a_19, k_19, b__law_made⟩
  let D__law_asked : Df l.prog w K mg base 5 "_law_asked" ["course", "k", "d", "g", "need", "p", "liars", "keepers"] (spV (gxOf K w mg) (W__law_asked)) := ⟨f_20, _, ok__law_asked F__law_asked T D__law_line D__law_like D_open_words D_blanks G_Numbers_init b_Numbers_init, PySem.W.mg_of X G a_20, k_20, b__law_asked⟩
  let D__law_due_having : Df l.prog w K mg base 2 "_law_due_having" ["course", "d", "g", "m", "p", "q", "liars", "keepers"] (spV (gxOf K w mg) (W__law_due_having)) := ⟨f_21, _, ok__law_due_having F__law_due_having T D__law_line, PySem.W.mg_of X G a_21, k_21, b__law_due_having⟩
  let D__law_asked_having : Df l.prog w K mg base 5 "_law_asked_having" ["heap", "course", "k", "d", "g", "p", "liars", "keepers"] (spV (gxOf K w mg) (W__law_asked_having)) := ⟨f_22, _, ok__law_asked_having F__law_asked_having T D__law_draw D_having D__law_like D__law_due_having G_Numbers_init b_Numbers_init G_Gone_init b_Gone_init, PySem.W.mg_of X G a_22, k_22, b__law_asked_having⟩
  let D__law_asked_more : Df l.prog w K mg base 5 "_law_asked_more" ["heap", "course", "k", "d", "g", "need", "p", "liars", "keepers", "pool"] (spV (gxOf K w mg) (W__law_asked_more)) := ⟨f_23, _, ok__law_asked_more F__law_asked_more T D_blanks D__law_like D__law_line D__law_pick G_Numbers_init b_Numbers_init, PySem.W.mg_of X G a_23, k_23, b__law_asked_more⟩
  exact (ok_law F_law T D__law_heap D__law_made D__law_line D__law_draw D__law_pick D__law_asked D__law_asked_having D__law_asked_more D__law_some).imp fun vs H Q E h => law_imp law_true h
theorem walk {l : PySem.W.OpenLaw} {q : Program} {loose : List Str} {XP : (Str → Option Value) → Heap → Prop} {YP : World → Heap → Prop} {d : DefRec} {K : Params → PySem.W.Frag} (hn : l.most = some 63) (hdf : d.params.defaults = [])
    (hY : ∀ (w : World) (h : Heap), YP w h → (K w.params).In h)
    (F : ∀ (w : World) (mg : Str → Option Value) (fa : Addr) (h : Heap), (K w.params).In h → h.Ns mainGlobals mg → mg d.name = some (.ref fa) →
      ∃ fd : FuncData, (∀ (s : Shared) (u : Value), BindsTo s fd ⟨[u], []⟩ [("script", u)]) ∧ ∀ base : Heap, (K w.params).In base → base.Ns mainGlobals mg → FnOk l.prog w (K w.params) mg base CX0 6 fa fd ["script"] (Vl.sp_law (K w.params))) :
    PySem.W.WalkO q loose XP YP l.row.toRowW d [] (fun f vs => PySem.call f vs) :=
  L2.walk_of (n := 63) (k := 6) (x := "script") (CX := fun _ => CX0) (sp := fun w => Vl.sp_law (K w.params)) hn (by decide) hdf ⟨rfl, by decide, by decide⟩ hY F (fun _ _ a ns hl _ hS => ⟨a, ns, rfl, hS, hl, fun _ => rfl⟩) fun _ _ _ _ _ z => z
end K27

open PySem PySem.W PyProof.Rows in
set_option maxRecDepth 100000 in
set_option maxHeartbeats 0 in
theorem PySem.Challenge.cw_piecesapart_k27_whole_lines_of_blanks_holds : PySem.Challenge.rw_piecesapart_k27_whole_lines_of_blanks.Holds := by
  w_on; o_law; k_head; (case hw => w_witness2)
  k_fill
  refine K27.walk (l := PySem.Challenge.rw_piecesapart_k27_whole_lines_of_blanks) rfl rfl (fun w h Y => PySem.W.kIn_of Y) ?F
  case F =>
    intro w mg fa h KX G hmg
    refine' K27.all_mk KX G hmg ?z_abs ?z_all ?z_any ?z_bool ?z_enumerate ?z_int ?z_isinstance ?z_len ?z_list ?z_min ?z_range ?z_set ?z_sorted ?z_str ?z_sum ?z_tuple ?z_zip ?g_MOST_COPIES ?g_MOST_LAG ?g_MOST_PIECES ?aC_Numbers ?pg_Numbers ?hd_Numbers ?po_Numbers ?sa_Numbers ?mk_Numbers ?kc_Numbers ?n_Numbers_k ?n_Numbers_f ?n_Numbers_d ?n_Numbers_m ?n_Numbers_w1 ?n_Numbers_w2 ?n_Numbers_g ?aC_Gone ?pg_Gone ?hd_Gone ?po_Gone ?sa_Gone ?mk_Gone ?kc_Gone ?n_Gone_p ?n_Gone_q ?n_Gone_liars ?n_Gone_keepers ?a_0 ?l_0 ?c_0 ?k_0 ?a_1 ?l_1 ?c_1 ?k_1 ?t_1 ?a_2 ?l_2 ?c_2 ?k_2 ?a_3 ?l_3 ?c_3 ?k_3 ?a_4 ?l_4 ?c_4 ?k_4 ?a_5 ?l_5 ?c_5 ?k_5 ?a_6 ?l_6 ?c_6 ?k_6 ?a_7 ?l_7 ?c_7 ?k_7 ?a_8 ?l_8 ?c_8 ?k_8 ?a_9 ?i_9 ?l_9 ?c_9 ?k_9 ?a_10 ?i_10 ?l_10 ?c_10 ?k_10 ?a_11 ?l_11 ?c_11 ?k_11 ?a_12 ?l_12 ?c_12 ?k_12 ?a_13 ?l_13 ?c_13 ?k_13 ?a_14 ?l_14 ?c_14 ?k_14 ?a_15 ?l_15 ?c_15 ?k_15 ?a_16 ?l_16 ?c_16 ?k_16 ?a_17 ?l_17 ?c_17 ?k_17 ?a_18 ?l_18 ?c_18 ?k_18 ?a_19 ?l_19 ?c_19 ?k_19 ?a_20 ?l_20 ?c_20 ?k_20 ?a_21 ?l_21 ?c_21 ?k_21 ?a_22 ?l_22 ?c_22 ?k_22 ?a_23 ?l_23 ?c_23 ?k_23 ?a_24 ?l_24 ?c_24 ?k_24
    (case z_abs => k_is)
    (case z_all => k_is)
    (case z_any => k_is)
    (case z_bool => k_is)
    (case z_enumerate => k_is)
    (case z_int => k_is)
    (case z_isinstance => k_is)
    (case z_len => k_is)
    (case z_list => k_is)
    (case z_min => k_is)
    (case z_range => k_is)
    (case z_set => k_is)
    (case z_sorted => k_is)
    (case z_str => k_is)
    (case z_sum => k_is)
    (case z_tuple => k_is)
    (case z_zip => k_is)
    (case g_MOST_COPIES => k_is)
    (case g_MOST_LAG => k_is)
    (case g_MOST_PIECES => k_is)
    (case aC_Numbers => k_is)
    (case pg_Numbers => k_is)
    (case hd_Numbers => k_is)
    (case po_Numbers => k_is)
    (case sa_Numbers => k_is)
    (case mk_Numbers => k_is)
    (case kc_Numbers => k_is)
    (case n_Numbers_k => k_is)
    (case n_Numbers_f => k_is)
    (case n_Numbers_d => k_is)
    (case n_Numbers_m => k_is)
    (case n_Numbers_w1 => k_is)
    (case n_Numbers_w2 => k_is)
    (case n_Numbers_g => k_is)
    (case aC_Gone => k_is)
    (case pg_Gone => k_is)
    (case hd_Gone => k_is)
    (case po_Gone => k_is)
    (case sa_Gone => k_is)
    (case mk_Gone => k_is)
    (case kc_Gone => k_is)
    (case n_Gone_p => k_is)
    (case n_Gone_q => k_is)
    (case n_Gone_liars => k_is)
    (case n_Gone_keepers => k_is)
    (case a_0 => k_is)
    (case l_0 => k_is)
    (case c_0 => k_is)
    (case k_0 => k_is)
    (case a_1 => k_is)
    (case l_1 => k_is)
    (case c_1 => k_is)
    (case k_1 => k_is)
    (case t_1 => k_is)
    (case a_2 => k_is)
    (case l_2 => k_is)
    (case c_2 => k_is)
    (case k_2 => k_is)
    (case a_3 => k_is)
    (case l_3 => k_is)
    (case c_3 => k_is)
    (case k_3 => k_is)
    (case a_4 => k_is)
    (case l_4 => k_is)
    (case c_4 => k_is)
    (case k_4 => k_is)
    (case a_5 => k_is)
    (case l_5 => k_is)
    (case c_5 => k_is)
    (case k_5 => k_is)
    (case a_6 => k_is)
    (case l_6 => k_is)
    (case c_6 => k_is)
    (case k_6 => k_is)
    (case a_7 => k_is)
    (case l_7 => k_is)
    (case c_7 => k_is)
    (case k_7 => k_is)
    (case a_8 => k_is)
    (case l_8 => k_is)
    (case c_8 => k_is)
    (case k_8 => k_is)
    (case a_9 => k_is)
    (case i_9 => k_is)
    (case l_9 => k_is)
    (case c_9 => k_is)
    (case k_9 => k_is)
    (case a_10 => k_is)
    (case i_10 => k_is)
    (case l_10 => k_is)
    (case c_10 => k_is)
    (case k_10 => k_is)
    (case a_11 => k_is)
    (case l_11 => k_is)
    (case c_11 => k_is)
    (case k_11 => k_is)
    (case a_12 => k_is)
    (case l_12 => k_is)
    (case c_12 => k_is)
    (case k_12 => k_is)
    (case a_13 => k_is)
    (case l_13 => k_is)
    (case c_13 => k_is)
    (case k_13 => k_is)
    (case a_14 => k_is)
    (case l_14 => k_is)
    (case c_14 => k_is)
    (case k_14 => k_is)
    (case a_15 => k_is)
    (case l_15 => k_is)
    (case c_15 => k_is)
    (case k_15 => k_is)
    (case a_16 => k_is)
    (case l_16 => k_is)
    (case c_16 => k_is)
    (case k_16 => k_is)
    (case a_17 => k_is)
    (case l_17 => k_is)
    (case c_17 => k_is)
    (case k_17 => k_is)
    (case a_18 => k_is)
    (case l_18 => k_is)
    (case c_18 => k_is)
    (case k_18 => k_is)
    (case a_19 => k_is)
    (case l_19 => k_is)
    (case c_19 => k_is)
    (case k_19 => k_is)
    (case a_20 => k_is)
    (case l_20 => k_is)
    (case c_20 => k_is)
    (case k_20 => k_is)
    (case a_21 => k_is)
    (case l_21 => k_is)
    (case c_21 => k_is)
    (case k_21 => k_is)
    (case a_22 => k_is)
    (case l_22 => k_is)
    (case c_22 => k_is)
    (case k_22 => k_is)
    (case a_23 => k_is)
    (case l_23 => k_is)
    (case c_23 => k_is)
    (case k_23 => k_is)
    (case a_24 => k_is)
    (case l_24 => k_is)
    (case c_24 => k_is)
    (case k_24 => k_is)
