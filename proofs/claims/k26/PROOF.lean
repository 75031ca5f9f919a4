import PyProof.Rows.All
import Wide.All
import OpenK.AllK
import Wide.FinOn
import HandS.ForMost
import HandS.Zip
import HandS.Style
import HandS.IsInst
import HandS.Deep
import HandS.Defaults
import HandS.Flow
import HandS.Walk
import HandS.Flt
import KE.DataMinMax
import KE.GoesEnum
import PySem.Challenge.RW_piecesapart_k26_whole_thresholds
set_option Elab.async false
set_option linter.all false
set_option maxRecDepth 100000
set_option maxHeartbeats 8000000
namespace Hl
open PySem PySem.Spec PyProof.Rows L2

/-! ### heaps that grow -/
theorem seqT {K : PySem.W.Frag} {H H' : Hp} {a : Addr} {xs : List V} (e : Same H H') (h : SqT K H a xs) : SqT K H' a xs := by
  rcases h with (h | ⟨o, h⟩) | h
  · exact .inl (.inl (e _ _ h))
  · exact .inl (.inr ⟨o, e _ _ h⟩)
  · exact .inr h
theorem same_new {H : Hp} {p : Addr} {o : HO} (h : H p = none) : Same H (upd H p o) := fun b x e => by
  rw [upd_ne (ne_of_none e h)]
  exact e
/-- what H does not know may change -/
theorem same_mut {H H' : Hp} {p : Addr} {o : HO} (e : Same H H') (h : H p = none) : Same H (upd H' p o) := fun b x hb => by
  rw [upd_ne (ne_of_none hb h)]
  exact e b x hb
theorem room65 {k : Nat} {A : Around} (r : Room k A) : A.units + 65 < cLine := by
  have := r.un
  omega
mutual
theorem dp_mono {K : PySem.W.Frag} {H H' : Hp} (e : Same H H') : ∀ {v : V} {d : PyData}, Dp K H v d → Dp K H' v d
  | _, _, .non => .non
  | _, _, .bl b => .bl b
  | _, _, .int i => .int i
  | _, _, .str x => .str x
  | _, _, .lst h a => .lst (e.seq h) (dps_mono e a)
  | _, _, .tup h a => .tup (seqT e h) (dps_mono e a)
theorem dps_mono {K : PySem.W.Frag} {H H' : Hp} (e : Same H H') : ∀ {vs : List V} {ds : List PyData}, DpAll K H vs ds → DpAll K H' vs ds
  | _, _, .nil => .nil
  | _, _, .cons h t => .cons (dp_mono e h) (dps_mono e t)
end
theorem dps_len {K : PySem.W.Frag} {H : Hp} : ∀ {vs : List V} {ds : List PyData}, DpAll K H vs ds → vs.length = ds.length
  | _, _, .nil => rfl
  | _, _, .cons _ t => by rw [List.length_cons, List.length_cons, dps_len t]
theorem dps_get {K : PySem.W.Frag} {H : Hp} : ∀ {vs : List V} {ds : List PyData} {i : Nat} {v : V}, DpAll K H vs ds → vs[i]? = some v → ∃ d, ds[i]? = some d ∧ Dp K H v d
  | _, _, _, _, .nil, h => by simp at h
  | _, _, 0, _, .cons h _, e => by simp at e; subst e; exact ⟨_, rfl, h⟩
  | _, _, i + 1, v, .cons _ t, e => by
    obtain ⟨d, h1, h2⟩ := dps_get (i := i) (v := v) t (by simpa using e)
    exact ⟨d, by simpa using h1, h2⟩
theorem dps_app {K : PySem.W.Frag} {H : Hp} : ∀ {vs ws : List V} {ds es : List PyData}, DpAll K H vs ds → DpAll K H ws es → DpAll K H (vs ++ ws) (ds ++ es)
  | _, _, _, _, .nil, h => h
  | _, _, _, _, .cons h t, u => .cons h (dps_app t u)
theorem dps_ints {K : PySem.W.Frag} {H : Hp} : ∀ ns : List Int, DpAll K H (ns.map V.int) (ns.map PyData.int)
  | [] => .nil
  | n :: r => .cons (.int n) (dps_ints r)
/-- an int's data -/
theorem dp_int {K : PySem.W.Frag} {H : Hp} {v : V} {i : Int} (h : Dp K H v (.int i)) : v = .int i := by cases h; rfl

/-! ### a def of the text that stands behind the top, with its promise -/
structure Df (P : Program) (w : World) (K : PySem.W.Frag) (mg : Str → Option Value) (base : Heap) (k : Nat) (nm : Str) (ps : List Str) (sp : Sp) where
  f : Addr
  fd : FuncData
  ok : FnOk P w K mg base CX0 k f fd ps sp
  m : mg nm = some (.ref f)
  kp : PySem.W.keepIn K (.ref f) = true
  b : Binds K fd ps []

theorem nofn {P : Program} {w : World} {K : PySem.W.Frag} {mg : Str → Option Value} {base : Heap} {CX : CXT} {k : Nat} {f : Addr} {fd : FuncData} {ps : List Str} : FnOk P w K mg base CX k f fd ps (fun _ _ _ _ => False) := ⟨fun _ _ _ _ h => h.elim, fun _ _ _ _ _ _ _ _ _ _ _ _ _ h => h.elim⟩
theorem fnok_or {P : Program} {w : World} {K : PySem.W.Frag} {mg : Str → Option Value} {base : Heap} {CX : CXT} {k : Nat} {f : Addr} {fd : FuncData} {ps : List Str} {sp sp' : Sp} (F : FnOk P w K mg base CX k f fd ps sp) (G : FnOk P w K mg base CX k f fd ps sp') :
    FnOk P w K mg base CX k f fd ps (fun vs H Q E => sp vs H Q E ∨ sp' vs H Q E) where
  len := fun vs H Q E h => h.elim (F.len vs H Q E) (G.len vs H Q E)
  run := fun A outer s H args us vs Q E hr he hb hv h => h.elim (F.run A outer s H args us vs Q E hr he hb hv) (G.run A outer s H args us vs Q E hr he hb hv)
section
variable {X : Cx} {CX : CXT} {k : Nat} {f C : Addr} {fd : FuncData} {ps ks : List Str} {sp : Sp} {E : XK} {x m : Str} {p pos apos kpos : Pos} {e o : Expr} {es : List Expr} {kws : List Keyword} {te ta : TE} {t tk : TA} {nm : Option Str}
variable {g : List Value → List Value → List Value} {gV : List V → List V → List V}
/-- f(k = v, ..) -/
theorem pe_callK0 (F : FnOk X.prog X.w X.K X.mg X.base CX k f fd ps sp) (hr : Room k X.A) (hg : Gl X x) (hm : X.mg x = some (.ref f)) (hk : PySem.W.keepIn X.K (.ref f) = true) (hb : KBinds X.K fd ps ks g gV) (hx : Passes CX X E)
    (hkw : PK X kws tk) (hall : (backToKw pos (keywordEach kws X.env)).all (·.1.isSome) = true := by rfl) (hks : (backToKw pos (keywordEach kws X.env)).filterMap (·.1) = ks := by rfl)
    (hdb : (x == ("__debug__" : Str)) = false := by decide)
    (hpl : ((backTo pos (starEach [] X.env)).any (·.1) || (backToKw pos (keywordEach kws X.env)).any (·.1.isNone)) = false := by rfl) :
    PE X (.Call (.Name x p) [] kws pos) (tCallK sp gV E tNil tk) := by
  refine ⟨fun pins s σ H Q I h => ?_⟩
  refine wpAny_Call_Name_kw (ld_glob I hg hm ?_ hdb)
  refine PySem.W.callWith_KW0 (h₀ := X.base) I.ok.mod.kin hk hall ?_ hpl
  refine thn (hkw.run pos pins s σ H _ I h) fun ws s2 ⟨zs, H2, I2, rz, q2⟩ => ⟨I2.kIn, ?_⟩
  rw [hks]
  exact run_fnk (us := []) (vs := []) F hr hb hx I2 .nil rz q2
end

/-! ### enumerate(tuple) -/
theorem meets_enumerate_newT {v : Value} {o : Obj} {H : Heap → Prop} (B : Begins v o H) :
    Meets (Builtin.«enumerate.__new__» ⟨[.type "enumerate", v], []⟩) (fun _ R s => H s.heap ∧
      R (.ok (.ret (.ref (s.heap.push o).objs.size))) { s with heap := (s.heap.push o).push { cls := .type "enumerate", data := .fields #[.none, .bool false, .ref s.heap.objs.size, rawInt 0, .none, .none] } }) :=
  .of_wp fun prog w A R s h => by
    obtain ⟨hp, g, d, tk, os⟩ := s; obtain ⟨h1, h⟩ := h
    have hsub := sub_enumerate
    have q1 : ∀ {A' : Around} {E : Value → Shared → Prop} {Q : Value → Shared → Prop}, Q (.ref hp.objs.size) ⟨hp.push o, g, d, tk, os⟩ → wpAny (model prog w) A' (pyIter v) Q E ⟨hp, g, d, tk, os⟩ :=
      fun q => B.iter prog w _ _ ⟨hp, g, d, tk, os⟩ _ h1 q
    wp_walk using q1
    refine wpAny_stack_any fun st => wpAny_pure ?_
    split
    · rename_i c _ _ _ _ _
      cases (c == Value.type "enumerate")
      · wp_walk using q1
        exact ⟨_, rfl, h⟩
      · wp_walk using q1
        exact ⟨_, rfl, h⟩
    · wp_walk using q1
      exact ⟨_, rfl, h⟩
theorem call_enumerate_tuple {prog : Program} {w : World} {A : Around} {E : Value → Shared → Prop} {s : Shared} {l : Addr} {items : Array Value} {Q : Value → Shared → Prop} (hL : s.heap.IsTuple l items)
    (h : ∀ h', IsEnum h' (s.heap.objs.size + 1) s.heap.objs.size 0 .none → h'.IsTupleIter s.heap.objs.size l 0 → h'.objs.size = s.heap.objs.size + 2 →
      (∀ b o, s.heap.get? b = some o → h'.get? b = some o) → Q (.ref (s.heap.objs.size + 1)) { s with heap := h' }) :
    wpAny (model prog w) A (call (.type "enumerate") [.ref l]) Q E s := by
  refine callType_new F.called_enumerate (by decide) (F.typeCall_enumerate_1 _) (F.newCall_enumerate_1 _) (fun obj => F.args_object_init_2 obj _) F.entry_enumerate_new
    (meets_enumerate_newT (begins_tuple l items)) ⟨hL, ?_⟩
  have hz : (s.heap.push { cls := .type "tuple_iterator", data := .fields #[.ref l, .int 0 0] }).objs.size = s.heap.objs.size + 1 := Heap.size_push ..
  show _ ∧ _
  rw [hz]
  have he : IsEnum ((s.heap.push { cls := .type "tuple_iterator", data := .fields #[.ref l, .int 0 0] }).push
      { cls := .type "enumerate", data := .fields #[.none, .bool false, .ref s.heap.objs.size, rawInt 0, .none, .none] }) (s.heap.objs.size + 1) s.heap.objs.size 0 .none := by
    have := Heap.get?_push_size (s.heap.push { cls := .type "tuple_iterator", data := .fields #[.ref l, .int 0 0] })
      (o := { cls := .type "enumerate", data := .fields #[.none, .bool false, .ref s.heap.objs.size, rawInt 0, .none, .none] }) rfl
    rw [hz] at this; exact this
  refine ⟨⟨_, he, rfl⟩, h _ he ⟨_, Heap.get?_push_of_some _ (Heap.get?_push_size _ rfl), rfl, rfl⟩ (by rw [Heap.size_push, hz]) fun b o x => Heap.get?_push_of_some _ (Heap.get?_push_of_some _ x)⟩
def IteT (K : PySem.W.Frag) (a : Addr) : It :=
  ⟨fun i H => ∃ (xs : List V) (x : V), SqT K H a xs ∧ xs[i]? = some x, fun i H v H' => ∃ T x, v = .ref T ∧ H T = none ∧ H' = upd H T (.tup [.int (i : Nat), x]) ∧ ∀ xs, SqT K H a xs → xs[i]? = some x, fun i H => ∃ xs : List V, SqT K H a xs ∧ xs.length = i⟩
theorem turn_enumT {P : Program} {w : World} {K : PySem.W.Frag} {elts : List Expr} {kk : Nat} {tpos : Pos} (a e it : Addr) (hai : a ≠ it) (hea : e ≠ a) :
    Turn P w K (.Tuple elts kk tpos) (IteT K a) [e, it] e (fun i h => (∃ old, IsEnum h e it ((i : Nat) : Int) old) ∧ h.IsTupleIter it a i ∧ e ≠ it) where
  mem := by simp
  obj := fun i h st b hb => by
    obtain ⟨⟨old, he⟩, ⟨o, ho, hc, hd⟩, _⟩ := st
    have e' : b = e ∨ b = it := by simpa using hb
    rcases e' with z | z
    · rw [z]; exact ⟨_, he, fun v q => nomatch q⟩
    · rw [z]; exact ⟨o, ho, fun v q => by rw [hd] at q; cases q⟩
  keep := fun i h h' st k => let ⟨⟨old, he⟩, hi, hne⟩ := st; ⟨⟨old, k e (by simp) _ he⟩, hi.at fun o q => k it (by simp) o q, hne⟩
  item := by
    intro X hP hw hK hc i pins s σ H E I hf st hg
    subst hP hw hK
    obtain ⟨⟨old, he⟩, hit, hne⟩ := st
    obtain ⟨xs, x, hq, hx⟩ := hg
    obtain ⟨its, rv, p, hz⟩ := I.tuple hq
    obtain ⟨u, hu, ru⟩ := rv.get hx
    have hlt : i < its.toArray.size := by
      obtain ⟨h1, _⟩ := List.getElem?_eq_some_iff.mp hu
      simpa using h1
    have hel : e < s.heap.objs.size := Heap.lt_size he
    have hil : it < s.heap.objs.size := by obtain ⟨_, q, _⟩ := hit; exact Heap.lt_size q
    refine wpAny_pyNext_enum_itemD (Draws.tuple (A := X.A.in1) (I.ok.hd hc) it a hai its.toArray) he ⟨hit, p⟩ hlt hne (by simp; exact ⟨hne, hea⟩) fun y h' tk hy ho hst hT hsz hk => ?_
    obtain rfl : y = u := by
      have z : its.toArray[i]? = some u := by simpa using hu
      exact Option.some.inj ((show its.toArray[i]? = some y from hy).symm.trans z)
    refine ⟨_, rfl, wpAny_letOwnedTupleGo_enum (s := { s with heap := h', toks := tk + 1 }) ho fun h'' he' sb => ?_⟩
    have hT2 : h''.get? s.heap.objs.size = some { cls := .type "tuple", data := .seq #[.int i tk, y] } := (sb.2 _ (Nat.ne_of_gt hel)).trans hT
    have new : ObjOk X.prog X.w (upd H s.heap.objs.size (.tup [.int (i : Nat), x])) h'' s.heap.objs.size (.tup [.int (i : Nat), x]) :=
      ⟨by show 2 ≤ sizeLine; decide, [.int i tk, y], .cons ⟨_, rfl⟩ (.cons ru .nil), ⟨_, hT2, rfl, _, rfl⟩⟩
    have I1 : Inv X pins σ (upd H s.heap.objs.size (.tup [.int (i : Nat), x])) { s with heap := h'', toks := tk + 1 } :=
      I.turnedNew (ch := [e, it]) (fun b ob hb q => (sb.2 b (fun z => hb (by simp [z]))).trans (hk b ob (fun z => hb (by simp [z])) (fun z => hb (by simp [z])) q)) hf (Nat.le_refl _) new
    refine ⟨.ref s.heap.objs.size, _, I1, rfl, ⟨_, x, rfl, I.hok.fresh (Nat.le_refl _), rfl, fun ys hy => by rw [I.tuple_inj hy hq]; exact hx⟩, ⟨⟨y, ?_⟩, hst.1.at fun o q => (sb.2 it (Ne.symm hne)).trans q, hne⟩, fun b hb => ?_⟩
    · have e1 : ((i + 1 : Nat) : Int) = (i : Int) + 1 := by omega
      rw [e1]; exact he'
    · have hb' : b < s.heap.objs.size := by
        have e' : b = e ∨ b = it := by simpa using hb
        rcases e' with z | z
        · rw [z]; exact hel
        · rw [z]; exact hil
      rw [upd_ne (Nat.ne_of_lt hb')]
      exact (hf b hb).1
  done := by
    intro X hP hw hK hc i pins s σ H E I hf st hg
    subst hP hw hK
    obtain ⟨⟨old, he⟩, hit, hne⟩ := st
    obtain ⟨xs, hq, hx⟩ := hg
    obtain ⟨its, rv, p, hz⟩ := I.tuple hq
    obtain ⟨f0, f1, f2, f3, f4, f5⟩ := hf it (by simp)
    have hl := rv.length
    have hi : i = its.toArray.size := by simp; omega
    exact wpAny_pyNext_enum_endD (Draws.tuple (A := X.A.in1) (I.ok.hd hc) it a hai its.toArray) he ⟨hi ▸ hit, p⟩ fun h' eb => ⟨rfl, I.turned (t' := s.toks) (fun b o hb q => eb b o hb q) f0 f1 f3 f4 f5⟩
  self := fun A i s Q E st h => let ⟨⟨_, he⟩, _⟩ := st; wpAny_pyIter_enum he h
def iEnumT (K : PySem.W.Frag) (ta : TA) : TI := fun σ H R => ta σ H fun vs H1 => ∃ a xs, vs = [.ref a] ∧ SqT K H1 a xs ∧ R (IteT K a) H1
theorem pi_enumT {X : Cx} {e : Expr} {ta : TA} {p pos tpos : Pos} {elts : List Expr} {kk : Nat} (hg : Gl X "enumerate") (hm : X.mg "enumerate" = none) (ha : PA X [e] ta) (hs : starEach [e] X.env = [(false, eval e X.env)] := by rfl) :
    PI X (.Tuple elts kk tpos) (.Call (.Name "enumerate" p) [e] [] pos) (iEnumT X.K ta) := by
  refine ⟨fun pins s σ H R I h => ?_⟩
  refine Call_ (ld_blt I hg hm boot_enumerate (PyProof.Rows.callWith_type1 (thn (ha.run pos pins s σ H _ I h) fun us s1 ⟨vs, H1, I1, r1, q1⟩ => ?_) hs rfl))
  obtain ⟨a, xs, ex, hq, q⟩ := q1
  subst ex
  cases r1 with
  | cons r rr =>
    cases rr
    cases r
    obtain ⟨its, rv, p', hz⟩ := I1.tuple hq
    have hal : a < s1.heap.objs.size := p'.lt
    refine call_enumerate_tuple (items := its.toArray) p' fun h' he hit hsz hk => wpAny_pyIter_enum he ?_
    have I2 : Inv X pins σ H1 { s1 with heap := h' } := I1.kept (t' := s1.toks) hk
    refine ⟨s1.heap.objs.size + 1, [s1.heap.objs.size + 1, s1.heap.objs.size], _, _, H1, rfl, I2, turn_enumT a (s1.heap.objs.size + 1) s1.heap.objs.size (Nat.ne_of_lt hal) (Ne.symm (Nat.ne_of_lt (Nat.lt_succ_of_lt hal))), ⟨⟨.none, he⟩, hit, Nat.succ_ne_self _⟩, fun b hb => ?_, q⟩
    have e' : b = s1.heap.objs.size + 1 ∨ b = s1.heap.objs.size := by simpa using hb
    have hle : s1.heap.objs.size ≤ b := by
      rcases e' with z | z
      · rw [z]; exact Nat.le_add_right _ _
      · rw [z]; exact Nat.le_refl _
    exact I1.fpOk hle (I1.hok.fresh hle)
theorem walk_enumT {K : PySem.W.Frag} {a : Addr} {xs : List V} : Walk (IteT K a) xs.length (fun H => SqT K H a xs) (YPair (fun i => some (.int (i : Nat))) (fun i => xs[i]?)) where
  goes := fun i H hi h => ⟨xs, xs[i], h, List.getElem?_eq_getElem hi⟩
  stops := fun H h => ⟨xs, h, rfl⟩
  yields := fun i H x H' _ h hy => by
    obtain ⟨T, y, rfl, hT, rfl, e⟩ := hy
    exact ⟨T, _, y, rfl, hT, rfl, rfl, e xs h⟩
theorem ite_dec {c A B : Prop} [Decidable c] (h1 : c → A) (h2 : ¬ c → B) : if decide c = true then A else B := by
  by_cases h : c
  · rw [decide_eq_true h]; exact iteT (h1 h)
  · rw [decide_eq_false h]; exact iteF (h2 h)
section
variable {X : Cx} {x : Str} {pos : Pos}
/-- a built-in class as a value -/
theorem pe_ty (T : String) (hg : Gl X x) (hm : X.mg x = none) (hv : bootBuiltins x = some (.type T) := by decide +kernel) (hn : x ≠ "__name__" := by decide) (hd : (x == ("__debug__" : Str)) = false := by decide) : PE X (.Name x pos) (tC (.ty T)) :=
  pe_bltn hg hm hv rfl hn hd
end
section
variable {K : PySem.W.Frag} {H : Hp} {Q : VK} {x : V} {a : Addr}
/-- isinstance, not to be looked into -/
structure RIs (K : PySem.W.Frag) (vs : List V) (H : Hp) (Q : VK) : Prop where
  h : rIsi K vs H Q
theorem call_isiS {X : Cx} : CallR X (.builtin "isinstance") (RIs X.K) := fun pins s σ H xs us Q I r h => call_isi pins s σ H xs us Q I r h.h
theorem isi_of {T U : String} {b : Bool} (ty : TyX K H x (.type T)) (h : kitB T U = some b) (q : Q (.bl b) H) : RIs K [x, .ty U] H Q := ⟨⟨_, _, _, _, _, rfl, .ty U, ty, kit_ty h, q⟩⟩
theorem isi_int (i : Int) (q : Q (.bl true) H) : RIs K [.int i, .ty "int"] H Q := isi_of (.base (.int i)) (by decide +kernel) q
theorem isi_intb (i : Int) (q : Q (.bl false) H) : RIs K [.int i, .ty "bool"] H Q := isi_of (.base (.int i)) (by decide +kernel) q
theorem ty_tup {xs : List V} (h : SqT K H a xs) : TyX K H (.ref a) (.type "tuple") := by
  rcases h with (h | ⟨o, h⟩) | ⟨o, its, n, l, c, _⟩
  · exact .base (.tup h)
  · exact .fTuple h
  · exact .kTuple l c
theorem ty_lst {xs : List V} (h : SqL K H a xs) : TyX K H (.ref a) (.type "list") := by
  rcases h with (h | ⟨o, h⟩) | ⟨o, its, n, l, c, _⟩
  · exact .base (.lst h)
  · exact .base (.frz h)
  · exact .kList l c
/-- the name of a data's type -/
def tyName : PyData → String
  | .none => "NoneType"
  | .bool _ => "bool"
  | .int _ => "int"
  | .str _ => "str"
  | .list _ => "list"
  | .tuple _ => "tuple"
  | _ => ""
end
theorem ty_dp {K : PySem.W.Frag} {H : Hp} : ∀ {v : V} {d : PyData}, Dp K H v d → TyX K H v (.type (tyName d))
  | _, _, .non => .base .non
  | _, _, .bl b => .base (.bl b)
  | _, _, .int i => .base (.int i)
  | _, _, .str x => .base (.str x)
  | _, _, .lst h _ => ty_lst h
  | _, _, .tup h _ => ty_tup h
theorem isi_dp {K : PySem.W.Frag} {H : Hp} {Q : VK} {v : V} {d : PyData} {U : String} {b : Bool} (h : Dp K H v d) (e : kitB (tyName d) U = some b) (q : Q (.bl b) H) : RIs K [v, .ty U] H Q := isi_of (ty_dp h) e q
/-! ### the rules with K told (within a comprehension's block) -/
section
variable {X : Cx} {K : PySem.W.Frag}
theorem kix_list (h : X.K = K) : IxR X (rIxL K) := by subst h; exact ix_list
theorem kix_tup (h : X.K = K) : IxR X (rIxT K) := by subst h; exact ix_tup
theorem ksl_list (h : X.K = K) : SlR X (rSlL K) := by subst h; exact sl_list
theorem ksl_tup (h : X.K = K) : SlR X (rSlT K) := by subst h; exact sl_tup
theorem kcall_isiS (h : X.K = K) : CallR X (.builtin "isinstance") (RIs K) := by subst h; exact call_isiS
theorem kop_eqD (h : X.K = K) (hu : X.A.units + 64 < cLine) : OpR X (compareOp .Eq) (rEqD K) := by subst h; exact op_eqD hu
theorem kop_neD (h : X.K = K) (hu : X.A.units + 64 < cLine) : OpR X (compareOp .NotEq) (rNeD K) := by subst h; exact op_neD hu
theorem kop_in_seq (h : X.K = K) : OpR X (compareOp .In) (rIn K false) := by subst h; exact op_in_seq
theorem kop_notIn_seq (h : X.K = K) : OpR X (compareOp .NotIn) (rIn K true) := by subst h; exact op_notIn_seq
theorem kcall_len_seq (h : X.K = K) : CallR X (.builtin "len") (fun xs H Q => ∃ p ys, xs = [.ref p] ∧ (SqL K H p ys ∨ SqT K H p ys) ∧ Q (.int ys.length) H) := by subst h; exact call_len_seq
theorem kcall_tuple_of (h : X.K = K) : CallR X (.type "tuple") (fun xs H Q => ∃ p ys, xs = [.ref p] ∧ ((SqL K H p ys ∧ ∀ l, H l = none → Q (.ref l) (upd H l (.tup ys))) ∨ (SqT K H p ys ∧ Q (.ref p) H))) := by subst h; exact call_tuple_of
theorem kcall_list_of (h : X.K = K) : CallR X (.type "list") (fun xs H Q => ∃ p ys, xs = [.ref p] ∧ (SqL K H p ys ∨ SqT K H p ys) ∧ ∀ l, H l = none → Q (.ref l) (upd H l (.lst ys))) := by subst h; exact call_list_of
theorem kcr_sum (h : X.K = K) (hc : X.calm = true) : CallR X (.builtin "sum") (rSum K) := by subst h; exact cr_sum hc
theorem kcr_min (h : X.K = K) (hc : X.calm = true) : CallR X (.builtin "min") (rMin K) := by subst h; exact cr_min hc
theorem kcr_max (h : X.K = K) (hc : X.calm = true) : CallR X (.builtin "max") (rMax K) := by subst h; exact cr_max hc
theorem kcr_all (h : X.K = K) (hc : X.calm = true) : CallR X (.builtin "all") (rAll K) := by subst h; exact cr_all hc
theorem kcr_any (h : X.K = K) (hc : X.calm = true) : CallR X (.builtin "any") (rAny K) := by subst h; exact cr_any hc
theorem kop_catT (h : X.K = K) : OpR X (binaryOp .Add) (rCatT K) := by subst h; exact op_catT
variable {tg l e : Expr} {tl ta : TE} {f : Str} {pos : Pos}
theorem kpi_list (h : X.K = K) (hl : PE X l tl) : PI X tg l (iList K tl) := by subst h; exact pi_list hl
theorem kpi_tup (h : X.K = K) (hl : PE X l tl) : PI X tg l (iTup K tl) := by subst h; exact pi_tup hl
theorem kpe_fld (h : X.K = K) (he : PE X e ta) (hb : attributeBase e f X.env (eval e X.env) = eval e X.env) : PE X (.Attribute e f pos) (tFld K ta f) := by subst h; exact pe_fld he hb
theorem kpg_tup {es : List Expr} {k : Nat} {t : TGs} {n : Nat} (h : X.K = K) (hc : X.calm = true) (hp : PGs X es t) (hn : (assignEach es X.env).length = n := by rfl) (hst : (assignEach es X.env).findIdx? (·.1) = none := by rfl) : PG X (.Tuple es k pos) (gTup K n t) := by subst h; exact pg_tup hc hp hn hst
end
/-- a while by a word W that falls; Ex: what holds behind it -/
theorem while_ex {c : TT} {tb : TS} {D : Ends} {σ : L2.St} {H : Hp} (W : Nat → L2.St → Hp → Prop) (Ex : L2.St → Hp → Prop) (h0 : ∃ m, W m σ H)
    (hs : ∀ m σ H, W m σ H → ∀ Z : L2.St → Hp → Prop, (∀ σ' H', Ex σ' H' → Z σ' H') → c σ H fun b H1 => if b = true then ∃ N : L2.St → Hp → Prop, (∀ σ' H', N σ' H' → ∃ m', m' < m ∧ W m' σ' H') ∧ tb { D with nx := N, ct := N, bk := Z } σ H1 else Z σ H1)
    (hx : ∀ σ H, Ex σ H → D.nx σ H) : tWhile c tb D σ H := ⟨W, h0, fun m σ H h => hs m σ H h D.nx hx⟩
/-! ### comprehensions by a word over what is made -/
theorem walk_zipT {K : PySem.W.Frag} {a b : Addr} {xs ys : List V} {n : Nat} (hx : xs.length = n) (hy : ys.length = n) : Walk (RZ.ItzT K a b) n (fun H => SqT K H a xs ∧ SqT K H b ys) (YPair (fun i => xs[i]?) (fun i => ys[i]?)) where
  goes := fun i H hi h => ⟨xs, ys, _, _, h.1, h.2, List.getElem?_eq_getElem (by omega), List.getElem?_eq_getElem (by omega)⟩
  stops := fun H h => ⟨xs, ys, h.1, h.2, .inl (by omega)⟩
  yields := fun i H x H' _ h hy => by
    obtain ⟨T, y, z, rfl, hT, rfl, e1, e2⟩ := hy
    exact ⟨T, y, z, rfl, hT, rfl, e1 xs h.1, e2 ys h.2⟩
inductive Ers {α : Type} (Er : Hp → V → α → Prop) (H : Hp) : List V → List α → Prop
  | nil : Ers Er H [] []
  | cons {v : V} {a : α} {vs : List V} {l : List α} : Er H v a → Ers Er H vs l → Ers Er H (v :: vs) (a :: l)
section
variable {α : Type} {Er : Hp → V → α → Prop} {H H' : Hp}
theorem Ers.len : ∀ {vs : List V} {l : List α}, Ers Er H vs l → vs.length = l.length
  | _, _, .nil => rfl
  | _, _, .cons _ t => by rw [List.length_cons, List.length_cons, t.len]
theorem Ers.mono (m : ∀ y a, Er H y a → Er H' y a) : ∀ {vs : List V} {l : List α}, Ers Er H vs l → Ers Er H' vs l
  | _, _, .nil => .nil
  | _, _, .cons h t => .cons (m _ _ h) (t.mono m)
theorem Ers.mono' {Er' : Hp → V → α → Prop} (m : ∀ y a, Er H y a → Er' H y a) : ∀ {vs : List V} {l : List α}, Ers Er H vs l → Ers Er' H vs l
  | _, _, .nil => .nil
  | _, _, .cons h t => .cons (m _ _ h) (t.mono' m)
theorem Ers.snoc {y : V} {a : α} (h : Er H y a) : ∀ {vs : List V} {l : List α}, Ers Er H vs l → Ers Er H (vs ++ [y]) (l ++ [a])
  | _, _, .nil => .cons h .nil
  | _, _, .cons h' t => .cons h' (t.snoc h)
theorem Ers.app : ∀ {vs ws : List V} {l m : List α}, Ers Er H vs l → Ers Er H ws m → Ers Er H (vs ++ ws) (l ++ m)
  | _, _, _, _, .nil, h => h
  | _, _, _, _, .cons h t, u => .cons h (t.app u)
theorem Ers.get : ∀ {vs : List V} {l : List α} {i : Nat} {v : V}, Ers Er H vs l → vs[i]? = some v → ∃ a, l[i]? = some a ∧ Er H v a
  | _, _, _, _, .nil, h => by simp at h
  | _, _, 0, _, .cons h _, e => by simp at e; subst e; exact ⟨_, rfl, h⟩
  | _, _, i + 1, v, .cons _ t, e => by
    obtain ⟨d, h1, h2⟩ := Ers.get (i := i) (v := v) t (by simpa using e)
    exact ⟨d, by simpa using h1, h2⟩
/-- ints -/
def ErI : Hp → V → Int → Prop := fun _ y a => y = .int a
theorem Ers.ints {H : Hp} : ∀ {vs : List V} {l : List Int}, Ers ErI H vs l → vs = l.map V.int
  | _, _, .nil => rfl
  | _, _, .cons h t => by rw [List.map_cons, ← t.ints, show _ = V.int _ from h]
end
/-- [elt for .. if ..]: Rl how the heap goes on, Er what an item is, P the word over the items made so far -/
theorem lc_inv {α : Type} {J : It} {n : Nat} {G : Hp → Prop} {Y : Nat → Hp → V → Hp → Prop} (w : Walk J n G Y) (hn : n ≤ 100000) {g : TG} {tt : TT} {te : TE} {vs : List Nat} {σ : L2.St} {H1 : Hp} {D : Addr} {Qd : Hp → Prop}
    (Rl : Hp → Hp → Prop) (rr : ∀ H, Rl H H) (rt : ∀ H H' H'', Rl H H' → Rl H' H'' → Rl H H'') (rp : ∀ H o, Rl H1 H → Rl H1 (upd H D o)) (rk : ∀ H H' o, Rl H1 H → Rl H H' → H D = some o → H' D = some o)
    (Er : Hp → V → α → Prop) (em : ∀ H H' y a, Rl H1 H → Rl H H' → Er H y a → Er H' y a) (ep : ∀ H o y a, Rl H1 H → Er H y a → Er (upd H D o) y a)
    (P : Nat → List α → Prop) (h0 : P 0 []) (hG : ∀ H, Rl H1 H → G H)
    (hs : ∀ i x H H' l, i < n → Rl H1 H → (∃ acc, H D = some (.lst acc)) → P i l → Y i H x H' → ∀ (A : V → Hp → Prop) (B : Hp → Prop), (∀ y a H4, Rl H H4 → Er H4 y a → P (i + 1) (l ++ [a]) → A y H4) → (∀ H3, Rl H H3 → P (i + 1) l → B H3) →
      g x (wipe σ vs) H' fun σ2 H2 => wipe σ2 vs = wipe σ vs ∧ tt σ2 H2 fun b H3 => if b = true then te σ2 H3 A else B H3)
    (hd : ∀ H' us l, Rl H1 H' → H' D = some (.lst us) → Ers Er H' us l → P n l → Qd H') :
    ∃ W : Nat → Nat → Hp → Prop, (∃ m, W 0 m (upd H1 D (.lst []))) ∧ ∀ i m H, W i m H → (J.stop i H ∧ Qd H) ∨ (J.go i H ∧ ∃ Nx : Hp → Prop, (∀ H', Nx H' → ∃ m', m' < m ∧ W (i + 1) m' H') ∧ ∀ x H', J.yld i H x H' → g x (wipe σ vs) H' fun σ2 H2 => wipe σ2 vs = wipe σ vs ∧ tt σ2 H2 fun b H3 => if b = true then te σ2 H3 fun y H4 => ∃ acc, H4 D = some (.lst acc) ∧ acc.length < sizeLine ∧ Nx (upd H4 D (.lst (acc ++ [y]))) else Nx H3) := by
  refine lc_it w (fun i H => Rl H1 H ∧ ∃ us l, H D = some (.lst us) ∧ Ers Er H us l ∧ P i l ∧ l.length ≤ i) ⟨rp _ _ (rr _), [], [], upd_same, .nil, h0, Nat.le_refl _⟩ (fun i H _ h => hG H h.1) ?_ ?_
  · rintro i x H H' hi ⟨r, us, l, hD, hE, hP, hl⟩ hy
    refine hs i x H H' l hi r ⟨_, hD⟩ hP hy _ _ (fun y a H4 r4 e4 p4 => ?_) (fun H3 r3 p3 => ?_)
    · have r14 := rt _ _ _ r r4
      refine ⟨us, rk _ _ _ r r4 hD, ?_, rp _ _ r14, us ++ [y], l ++ [a], upd_same, ?_, p4, by rw [List.length_append]; exact Nat.succ_le_succ hl⟩
      · rw [hE.len]
        exact Nat.lt_of_le_of_lt (Nat.le_trans hl (Nat.le_trans (Nat.le_of_lt hi) hn)) (by decide)
      · exact (((hE.mono fun y a h => em _ _ y a r r4 h).snoc e4).mono fun y a h => ep _ _ y a r14 h)
    · exact ⟨rt _ _ _ r r3, us, l, rk _ _ _ r r3 hD, hE.mono fun y a h => em _ _ y a r r3 h, p3, Nat.le_succ_of_le hl⟩
  · rintro H ⟨r, us, l, hD, hE, hP, _⟩
    exact hd H us l r hD hE hP
theorem t_yes {σ : L2.St} {H : Hp} {P1 P2 : Hp → Prop} (h : P1 H) : tYes σ H (fun b H3 => if b = true then P1 H3 else P2 H3) := by
  show (if true = true then P1 H else P2 H)
  rw [if_pos rfl]
  exact h
/-- the same where the heap only grows -/
theorem lc_same {α : Type} {J : It} {n : Nat} {G : Hp → Prop} {Y : Nat → Hp → V → Hp → Prop} (w : Walk J n G Y) (hn : n ≤ 100000) {g : TG} {tt : TT} {te : TE} {vs : List Nat} {σ : L2.St} {H1 : Hp} {D : Addr} {Qd : Hp → Prop} (hD : H1 D = none)
    (Er : Hp → V → α → Prop) (em : ∀ H H' y a, Same H1 H → Same H H' → Er H y a → Er H' y a) (ep : ∀ H o y a, Same H1 H → Er H y a → Er (upd H D o) y a)
    (P : Nat → List α → Prop) (h0 : P 0 []) (hG : ∀ H, Same H1 H → G H)
    (hs : ∀ i x H H' l, i < n → Same H1 H → (∃ acc, H D = some (.lst acc)) → P i l → Y i H x H' → ∀ (A : V → Hp → Prop) (B : Hp → Prop), (∀ y a H4, Same H H4 → Er H4 y a → P (i + 1) (l ++ [a]) → A y H4) → (∀ H3, Same H H3 → P (i + 1) l → B H3) →
      g x (wipe σ vs) H' fun σ2 H2 => wipe σ2 vs = wipe σ vs ∧ tt σ2 H2 fun b H3 => if b = true then te σ2 H3 A else B H3)
    (hd : ∀ H' us l, Same H1 H' → H' D = some (.lst us) → Ers Er H' us l → P n l → Qd H') :
    ∃ W : Nat → Nat → Hp → Prop, (∃ m, W 0 m (upd H1 D (.lst []))) ∧ ∀ i m H, W i m H → (J.stop i H ∧ Qd H) ∨ (J.go i H ∧ ∃ Nx : Hp → Prop, (∀ H', Nx H' → ∃ m', m' < m ∧ W (i + 1) m' H') ∧ ∀ x H', J.yld i H x H' → g x (wipe σ vs) H' fun σ2 H2 => wipe σ2 vs = wipe σ vs ∧ tt σ2 H2 fun b H3 => if b = true then te σ2 H3 fun y H4 => ∃ acc, H4 D = some (.lst acc) ∧ acc.length < sizeLine ∧ Nx (upd H4 D (.lst (acc ++ [y]))) else Nx H3) :=
  lc_inv w hn Same Same.refl (fun _ _ _ a b => a.trans b) (fun H o h => same_mut h hD) (fun _ _ o _ h e => h _ _ e) Er em ep P h0 hG hs hd
/-! ### max, min of a tuple of ints, of three ints -/
theorem hl_lay_ints : ∀ ns : List Int, PyData.canLayAll0 (ns.map PyData.int) = true
  | [] => by simp [PyData.canLayAll0]
  | n :: r => by simp [PyData.canLayAll0, PyData.canLay0, hl_lay_ints r]
theorem hl_depth_ints : ∀ ns : List Int, PyData.depthAll (ns.map PyData.int) = 0
  | [] => by simp [PyData.depthAll]
  | n :: r => by
    have h := hl_depth_ints r
    simp only [List.map_cons, PyData.depthAll, PyData.depth, h]
    rfl
def rMaxT (K : PySem.W.Frag) : List V → Hp → VK → Prop := fun vs H Q => ∃ (a : Addr) (n : Int) (ns : List Int), vs = [V.ref a] ∧ SqT K H a ((n :: ns).map V.int) ∧ Q (.int (ns.foldl max n)) H
def rMinT (K : PySem.W.Frag) : List V → Hp → VK → Prop := fun vs H Q => ∃ (a : Addr) (n : Int) (ns : List Int), vs = [V.ref a] ∧ SqT K H a ((n :: ns).map V.int) ∧ Q (.int (ns.foldl min n)) H
theorem alike_ints (ns : List Int) : PySem.W.AlikeAll (ns.map PyData.int) := by
  refine ⟨fun x hx y hy => ?_, fun x hx => ?_⟩
  · obtain ⟨a, _, rfl⟩ := List.mem_map.mp hx
    obtain ⟨b, _, rfl⟩ := List.mem_map.mp hy
    rfl
  · obtain ⟨a, _, rfl⟩ := List.mem_map.mp hx
    exact fun z => nomatch z
theorem cr_maxT {X : Cx} (hc : X.calm = true) (hu : X.A.units + 65 < cLine) : CallR X (.builtin "max") (rMaxT X.K) := by
  intro pins s σ H vs us Q I r h
  obtain ⟨a, n, ns, rfl, hs, q⟩ := h
  obtain ⟨its, rv, hl, _⟩ := I.tuple hs
  rw [Vals.ref1 r]
  obtain ⟨as, hr⟩ := Dp.readsAll I _ _ its (dps_ints (n :: ns)) rv
  refine PySem.W.max_tuple_data (x := .int n) (xs := ns.map .int) (I.ok.hd hc) hl hr (alike_ints (n :: ns)) (by rw [show PyData.depthAll (PyData.int n :: ns.map .int) = 0 from hl_depth_ints (n :: ns)]; omega) fun i v h' tk bs _ hv hk => ?_
  rw [PySem.W.maxD_ints] at hv
  cases hv
  exact ⟨.int _, H, I.kept hk, ⟨_, rfl⟩, q⟩
theorem cr_minT {X : Cx} (hc : X.calm = true) (hu : X.A.units + 65 < cLine) : CallR X (.builtin "min") (rMinT X.K) := by
  intro pins s σ H vs us Q I r h
  obtain ⟨a, n, ns, rfl, hs, q⟩ := h
  obtain ⟨its, rv, hl, _⟩ := I.tuple hs
  rw [Vals.ref1 r]
  obtain ⟨as, hr⟩ := Dp.readsAll I _ _ its (dps_ints (n :: ns)) rv
  refine PySem.W.min_tuple_data (x := .int n) (xs := ns.map .int) (I.ok.hd hc) hl hr (alike_ints (n :: ns)) (by rw [show PyData.depthAll (PyData.int n :: ns.map .int) = 0 from hl_depth_ints (n :: ns)]; omega) fun i v h' tk bs _ hv hk => ?_
  rw [PySem.W.minD_ints] at hv
  cases hv
  exact ⟨.int _, H, I.kept hk, ⟨_, rfl⟩, q⟩
theorem kcr_minT {X : Cx} {K : PySem.W.Frag} (h : X.K = K) (hc : X.calm = true) (hu : X.A.units + 65 < cLine) : CallR X (.builtin "min") (rMinT K) := by subst h; exact cr_minT hc hu
theorem nuMax2_int (i j : Int) : nuMax2 (.int i) (.int j) = some (.int (if j > i then j else i)) := by
  show some (if decide (i < j) = true then V.int j else V.int i) = _
  by_cases h : i < j
  · rw [decide_eq_true h, if_pos rfl, if_pos h]
  · rw [decide_eq_false h, if_neg Bool.false_ne_true, if_neg h]
theorem nuMin2_int (i j : Int) : nuMin2 (.int i) (.int j) = some (.int (if j < i then j else i)) := by
  show some (if decide (j < i) = true then V.int j else V.int i) = _
  by_cases h : j < i
  · rw [decide_eq_true h, if_pos rfl, if_pos h]
  · rw [decide_eq_false h, if_neg Bool.false_ne_true, if_neg h]
def rMax3 : List V → Hp → VK → Prop := fun xs H Q => ∃ i j l : Int, xs = [.int i, .int j, .int l] ∧ Q (.int (if l > (if j > i then j else i) then l else (if j > i then j else i))) H
def rMin3 : List V → Hp → VK → Prop := fun xs H Q => ∃ i j l : Int, xs = [.int i, .int j, .int l] ∧ Q (.int (if l < (if j < i then j else i) then l else (if j < i then j else i))) H
theorem call_max3I {X : Cx} (hc : X.calm = true) : CallR X (.builtin "max") rMax3 := by
  intro pins s σ H xs us Q I r h
  obtain ⟨i, j, l, rfl, q⟩ := h
  refine call_max3Nu hc pins s σ H _ us Q I r ⟨_, _, _, _, rfl, ?_, q⟩
  show (nuMax2 (.int i) (.int j)).bind (fun m => nuMax2 m (.int l)) = _
  rw [nuMax2_int]
  exact nuMax2_int _ _
theorem call_min3I {X : Cx} (hc : X.calm = true) : CallR X (.builtin "min") rMin3 := by
  intro pins s σ H xs us Q I r h
  obtain ⟨i, j, l, rfl, q⟩ := h
  refine call_min3Nu hc pins s σ H _ us Q I r ⟨_, _, _, _, rfl, ?_, q⟩
  show (nuMin2 (.int i) (.int j)).bind (fun m => nuMin2 m (.int l)) = _
  rw [nuMin2_int]
  exact nuMin2_int _ _
/-! ### data that a law's own comparison takes -/
def Sc (C : PyData → Prop) (d : PyData) : Prop := d = .none ∨ (∃ b, d = .bool b) ∨ (∃ i, d = .int i) ∨ ∃ ds, d = .tuple ds ∧ ds.length ≤ 10000 ∧ ∀ x ∈ ds, C x
def ScF : PyData → Prop := fun _ => False
/-- equal data are told as equal -/
def spLike (K : PySem.W.Frag) (C : PyData → Prop) : Sp := fun vs H Q _ => ∃ v u d, vs = [v, u] ∧ Dp K H v d ∧ Dp K H u d ∧ C d ∧ ∀ H', Same H H' → Q (.bl true) H'
theorem spLike_no {P : Program} {w : World} {K : PySem.W.Frag} {mg : Str → Option Value} {base : Heap} {k : Nat} {f : Addr} {fd : FuncData} {ps : List Str} : FnOk P w K mg base CX0 k f fd ps (spLike K ScF) :=
  ⟨fun _ _ _ _ ⟨_, _, _, _, _, _, h, _⟩ => h.elim, fun _ _ _ _ _ _ _ _ _ _ _ _ _ ⟨_, _, _, _, _, _, h, _⟩ => h.elim⟩
/-- and, or of values whose answer is a bool -/
theorem and_rd {c : Bool} {A B : Prop} (h1 : c = true → A) (h2 : c = false → B) : ∃ c', V.bl c = .bl c' ∧ if c' = true then A else B := ⟨c, rfl, by
  cases c with
  | true => exact iteT (h1 rfl)
  | false => exact iteF (h2 rfl)⟩
theorem if_b {c : Bool} {A B : Prop} (h1 : c = true → A) (h2 : c = false → B) : if c = true then A else B := by
  cases c with
  | true => exact iteT (h1 rfl)
  | false => exact iteF (h2 rfl)
theorem if_n {c : Bool} {A B : Prop} (h1 : c = false → A) (h2 : c = true → B) : if (!c) = true then A else B := by
  cases c with
  | true => exact iteF (h2 rfl)
  | false => exact iteT (h1 rfl)
/-! ### a cut: what holds behind an expression, a test, a statement, told once -/
section
variable {X : Cx} {e : Expr} {te : TE} {tt : TT} {ts : TS} {sts : Stmt}
def cE (te : TE) : TE := fun σ H Q => ∃ φ : VK, te σ H φ ∧ ∀ v H', φ v H' → Q v H'
theorem pe_cut (h : PE X e te) : PE X e (cE te) := ⟨fun pins s σ H Q I ⟨φ, h1, h2⟩ => thn (h.run pins s σ H φ I h1) fun u s' ⟨v, H', I', r, q⟩ => ⟨v, H', I', r, h2 _ _ q⟩⟩
def cT (tt : TT) : TT := fun σ H Q => ∃ φ : Bool → Hp → Prop, tt σ H φ ∧ ∀ b H', φ b H' → Q b H'
theorem pt_cut (h : PT X e tt) : PT X e (cT tt) := ⟨fun pins s σ H Q I ⟨φ, h1, h2⟩ => thn (h.run pins s σ H φ I h1) fun u s' ⟨H', I', q⟩ => ⟨H', I', h2 _ _ q⟩⟩
def cS (ts : TS) : TS := fun D σ H => ∃ φ : L2.St → Hp → Prop, ts { D with nx := φ } σ H ∧ ∀ σ' H', φ σ' H' → D.nx σ' H'
theorem ps_cut (h : PS X sts ts) : PS X sts (cS ts) := ⟨fun pins s σ H D I ⟨φ, h1, h2⟩ => thn (h.run pins s σ H { D with nx := φ } I h1) fun f s' q => by
  cases f with
  | next =>
    obtain ⟨σ', H', I', q⟩ := q
    exact ⟨σ', H', I', h2 _ _ q⟩
  | _ => exact q⟩
end
end Hl

namespace K26
/-! ### thresholds, plainly -/
def nearI (k f w1 s : Int) : Int := 2 * w1 - k - s - f
def farI (k f w2 g s : Int) : Int := g + w2 - k - s - f
def singleB (k f w1 w2 g s : Int) : Bool := decide (0 < nearI k f w1 s) && (decide (s = 0) || decide (0 < farI k f w2 g s))
def lastB (k f m w2 g s : Int) : Bool := if s = 0 then decide (f + m ≤ w2) else decide (0 ≤ farI k f w2 g s - m)
def mx (a b : Int) : Int := if b > a then b else a
def timesI (a s : Int) : Int := (a + s - 1) / s
def needI (k f w1 w2 : Int) : Int := w1 + mx w1 w2 - k - f
def twiceO (k f d w1 w2 g s : Int) : Option Int :=
  if 2 * mx w1 w2 ≤ k + f then some 0 else if nearI k f w1 s ≤ 0 then some 1 else if singleB k f w1 w2 g s = true then none else some ((timesI (needI k f w1 w2) s - 1) * d + 1)
def beyondI (f m w2 : Int) : Int := w2 - f - m + 1
def goneO (k f d m w2 g s : Int) : Option Int :=
  if beyondI f m w2 ≤ 0 then some 0 else if beyondI f m w2 ≤ s then some 1 else if lastB k f m w2 g s = true then none else some ((timesI (beyondI f m w2) s - 1) * d + 1)
def leftI (k f d m w2 g s words : Int) : Int :=
  mx 0 (w2 - f - s * (if words = 0 then 0 else if words ≤ d ∨ lastB k f m w2 g s = true then 1 else timesI words d))
/-- what is left behind so many changes -/
def leftN (k f m w2 g s : Int) (n : Nat) : Int := mx 0 (w2 - f - s * (if n = 0 then 0 else if lastB k f m w2 g s = true then 1 else (n : Int)))
/-- so many turns of d words -/
def turnsN (words d : Int) : Nat := if 0 < words then ((words - 1) / d + 1).toNat else 0
theorem mx_le {a b c : Int} : mx a b ≤ c ↔ a ≤ c ∧ b ≤ c := by unfold mx; split <;> omega
theorem le_mx {a b : Int} : a ≤ mx a b ∧ b ≤ mx a b := by unfold mx; split <;> omega
theorem mx_cases (a b : Int) : (mx a b = a ∧ b ≤ a) ∨ (mx a b = b ∧ a < b) := by unfold mx; split <;> omega
theorem times_d {w d : Int} (hw : 0 < w) (hd : 0 < d) : timesI w d = (w - 1) / d + 1 := by
  unfold timesI
  rw [show w + d - 1 = (w - 1) + d * 1 by omega, Int.add_mul_ediv_left _ _ (by omega)]
theorem turns_pos {w d : Int} (hw : 0 < w) (hd : 0 < d) : 1 ≤ turnsN w d ∧ ((turnsN w d : Nat) : Int) = timesI w d := by
  have h : 0 ≤ (w - 1) / d := Int.ediv_nonneg (by omega) (by omega)
  unfold turnsN
  rw [if_pos hw, times_d hw hd]
  omega
theorem left_turns {k f d m w2 g s words : Int} (hd : 0 < d) (hw : 0 ≤ words) : leftI k f d m w2 g s words = leftN k f m w2 g s (turnsN words d) := by
  unfold leftI leftN
  by_cases h0 : words = 0
  · subst h0
    rw [if_pos rfl, show turnsN 0 d = 0 from rfl, if_pos rfl]
  · have hp := turns_pos (w := words) (d := d) (by omega) hd
    rw [if_neg h0, if_neg (by omega : ¬ turnsN words d = 0)]
    cases hl : lastB k f m w2 g s with
    | true => rw [if_pos (.inr rfl), if_pos rfl]
    | false =>
      rw [if_neg Bool.false_ne_true, hp.2]
      by_cases h1 : words ≤ d
      · have h2 : (words - 1) / d = 0 := Int.ediv_eq_zero_of_lt (by omega) (by omega)
        rw [if_pos (.inl h1), times_d (by omega) hd, h2]
        rfl
      · rw [if_neg (by simp; omega)]
theorem leftN_0 {k f m w2 g s : Int} : leftN k f m w2 g s 0 = mx 0 (w2 - f) := by
  unfold leftN
  rw [if_pos rfl, Int.mul_zero, Int.sub_zero]
theorem leftN_l {k f m w2 g s : Int} {n : Nat} (hl : lastB k f m w2 g s = true) (h : n ≠ 0) : leftN k f m w2 g s n = mx 0 (w2 - f - s) := by
  unfold leftN
  rw [if_neg h, if_pos hl, Int.mul_one]
theorem leftN_n {k f m w2 g s : Int} {n : Nat} (hl : lastB k f m w2 g s = false) (h : n ≠ 0) : leftN k f m w2 g s n = mx 0 (w2 - f - s * (n : Int)) := by
  unfold leftN
  rw [if_neg h, hl, if_neg Bool.false_ne_true]
theorem leftN_1 {k f m w2 g s : Int} : leftN k f m w2 g s 1 = mx 0 (w2 - f - s) := by
  cases hl : lastB k f m w2 g s with
  | true => exact leftN_l hl (by omega)
  | false => rw [leftN_n hl (by omega)]; simp
theorem mx_sub {a s : Int} (hs : 0 ≤ s) : mx 0 (mx 0 a - s) = mx 0 (a - s) := by
  have a1 := mx_cases 0 a
  have a2 := mx_cases 0 (mx 0 a - s)
  have a3 := mx_cases 0 (a - s)
  omega
theorem last_far {k f m w2 g s : Int} (hs : s ≠ 0) (hl : lastB k f m w2 g s = true) : m ≤ g + w2 - k - s - f := by
  unfold lastB at hl
  rw [if_neg hs] at hl
  have := of_decide_eq_true hl
  unfold farI at this
  omega
theorem last_not {k f m w2 g s : Int} (hs : s ≠ 0) (hl : lastB k f m w2 g s = false) : g + w2 - k - s - f < m := by
  unfold lastB at hl
  rw [if_neg hs] at hl
  have := of_decide_eq_false hl
  unfold farI at this
  omega
/-- one turn more -/
theorem left_step {k f m w2 g s : Int} {n : Nat} (hs : 0 ≤ s) (hg : g ≤ k) (hm : 1 ≤ m) (h : n = 0 ∨ leftN k f m w2 g s n ≠ 0) :
    (if n = 0 ∨ g - (k - leftN k f m w2 g s n) < m then mx 0 (leftN k f m w2 g s n - s) else leftN k f m w2 g s n) = leftN k f m w2 g s (n + 1) := by
  by_cases h0 : n = 0
  · subst h0
    rw [if_pos (.inl rfl), leftN_0, leftN_1, mx_sub hs]
  · have hne : leftN k f m w2 g s n ≠ 0 := h.resolve_left h0
    cases hl : lastB k f m w2 g s with
    | true =>
      rw [leftN_l hl h0] at hne ⊢
      rw [leftN_l hl (by omega)]
      have c := mx_cases 0 (w2 - f - s)
      by_cases hs0 : s = 0
      · subst hs0
        split
        · rw [mx_sub (by omega)]; simp
        · rfl
      · have := last_far hs0 hl
        rw [if_neg (by omega)]
    | false =>
      rw [leftN_n hl h0] at hne ⊢
      rw [leftN_n hl (by omega)]
      have hmul : s * ((n + 1 : Nat) : Int) = s * (n : Int) + s := by
        rw [Int.natCast_add, Int.mul_add]
        simp
      rw [hmul]
      have hpos : s * 1 ≤ s * (n : Int) := Int.mul_le_mul_of_nonneg_left (by omega) hs
      generalize s * (n : Int) = sn at hne hpos ⊢
      have c := mx_cases 0 (w2 - f - sn)
      rw [show w2 - f - (sn + s) = w2 - f - sn - s by omega]
      by_cases hs0 : s = 0
      · subst hs0
        split
        · rw [mx_sub (by omega)]
        · simp
      · have := last_not hs0 hl
        rw [if_pos (.inr (by omega)), mx_sub hs]
/-- where nothing is left, or behind fifteen turns, it stays -/
theorem left_stays {k f m w2 g s : Int} {n n' : Nat} (hs : 0 ≤ s) (hw : w2 ≤ 12) (hf : 0 ≤ f) (h : n ≤ n') (h1 : 1 ≤ n) (h2 : leftN k f m w2 g s n = 0 ∨ 14 < n) : leftN k f m w2 g s n' = leftN k f m w2 g s n := by
  cases hl : lastB k f m w2 g s with
  | true => rw [leftN_l hl (by omega), leftN_l hl (by omega)]
  | false =>
    rw [leftN_n hl (by omega)] at h2
    rw [leftN_n hl (by omega), leftN_n hl (by omega)]
    have hmul : s * (n : Int) ≤ s * (n' : Int) := Int.mul_le_mul_of_nonneg_left (by omega) hs
    by_cases hs0 : s = 0
    · subst hs0; simp
    · have h15 : 14 < n → 1 * (15 : Int) ≤ s * (n : Int) := fun h2 => Int.mul_le_mul (by omega) (by omega) (by omega) hs
      generalize s * (n : Int) = a at *
      generalize s * (n' : Int) = b at *
      have c1 := mx_cases 0 (w2 - f - a)
      have c2 := mx_cases 0 (w2 - f - b)
      omega
/-- the words at the i-th place of the law's list -/
def wordsAt (d : Int) : Nat → Int
  | 0 => 0
  | i + 1 => (i : Int) * d + 1
theorem turns_at {d : Int} (hd : 0 < d) : ∀ i : Nat, turnsN (wordsAt d i) d = i
  | 0 => rfl
  | i + 1 => by
    have h : 0 ≤ (i : Int) * d := Int.mul_nonneg (by omega) (by omega)
    show turnsN ((i : Int) * d + 1) d = i + 1
    unfold turnsN
    rw [if_pos (by omega), show (i : Int) * d + 1 - 1 = (i : Int) * d by omega, Int.mul_ediv_cancel _ (by omega)]
    omega
theorem words_nn {d : Int} (hd : 0 < d) : ∀ i : Nat, 0 ≤ wordsAt d i
  | 0 => Int.le_refl 0
  | i + 1 => by
    have h : 0 ≤ (i : Int) * d := Int.mul_nonneg (by omega) (by omega)
    show 0 ≤ (i : Int) * d + 1
    omega
theorem s_cases {s : Int} (h : 1 ≤ s) (h' : s ≤ 12) : s = 1 ∨ s = 2 ∨ s = 3 ∨ s = 4 ∨ s = 5 ∨ s = 6 ∨ s = 7 ∨ s = 8 ∨ s = 9 ∨ s = 10 ∨ s = 11 ∨ s = 12 := by omega
/-- a first number of changes that is enough -/
theorem times_first {a s c : Int} (h : 1 ≤ s) (h' : s ≤ 12) (h1 : a ≤ s * c) (h2 : s * (c - 1) < a) : timesI a s = c := by
  unfold timesI
  rcases s_cases h h' with rfl | rfl | rfl | rfl | rfl | rfl | rfl | rfl | rfl | rfl | rfl | rfl <;> omega
theorem s_pos {k f m w2 g s : Int} (hs : 0 ≤ s) (hl : lastB k f m w2 g s = false) (h : m ≤ w2 - f) : 1 ≤ s := by
  unfold lastB at hl
  by_cases h0 : s = 0
  · rw [if_pos h0] at hl
    have := of_decide_eq_false hl
    omega
  · omega
theorem gone_some {k f d m w2 g s : Int} {i : Nat} (hs : 0 ≤ s ∧ s ≤ 12) (hm : 1 ≤ m) (h1 : leftN k f m w2 g s i < m) (h2 : ∀ j, j < i → m ≤ leftN k f m w2 g s j) : goneO k f d m w2 g s = some (wordsAt d i) := by
  unfold goneO beyondI
  have c0 := mx_cases 0 (w2 - f)
  have c1 := mx_cases 0 (w2 - f - s)
  match i with
  | 0 =>
    rw [leftN_0] at h1
    rw [if_pos (by omega)]
    rfl
  | 1 =>
    have a0 := h2 0 (by omega)
    rw [leftN_0] at a0
    rw [leftN_1] at h1
    rw [if_neg (by omega), if_pos (by omega)]
    show some (1 : Int) = some (((0 : Nat) : Int) * d + 1)
    simp
  | i + 2 =>
    have a0 := h2 0 (by omega)
    have a1 := h2 1 (by omega)
    have ai := h2 (i + 1) (by omega)
    rw [leftN_0] at a0
    rw [leftN_1] at a1
    rw [if_neg (by omega), if_neg (by omega)]
    cases hl : lastB k f m w2 g s with
    | true =>
      rw [leftN_l hl (by omega)] at h1
      omega
    | false =>
      rw [leftN_n hl (by omega)] at h1 ai
      have hs1 := s_pos hs.1 hl (by omega)
      have d1 := mx_cases 0 (w2 - f - s * ((i + 2 : Nat) : Int))
      have d2 := mx_cases 0 (w2 - f - s * ((i + 1 : Nat) : Int))
      have e1 : ((i + 2 : Nat) : Int) - 1 = ((i + 1 : Nat) : Int) := by omega
      have := times_first (a := w2 - f - m + 1) (s := s) (c := ((i + 2 : Nat) : Int)) hs1 hs.2 (by omega) (by rw [e1]; omega)
      rw [if_neg Bool.false_ne_true, this, e1]
      rfl
theorem gone_none {k f d m w2 g s : Int} (hs : 0 ≤ s ∧ s ≤ 12) (hm : 1 ≤ m) (hw : w2 ≤ 12) (hf : 0 ≤ f) (h2 : ∀ j, j < 15 → m ≤ leftN k f m w2 g s j) : goneO k f d m w2 g s = none := by
  have a0 := h2 0 (by omega)
  have a1 := h2 1 (by omega)
  have ai := h2 14 (by omega)
  rw [leftN_0] at a0
  rw [leftN_1] at a1
  have c0 := mx_cases 0 (w2 - f)
  have c1 := mx_cases 0 (w2 - f - s)
  unfold goneO beyondI
  rw [if_neg (by omega), if_neg (by omega)]
  cases hl : lastB k f m w2 g s with
  | true => rw [if_pos rfl]
  | false =>
    exfalso
    rw [leftN_n hl (by omega)] at ai
    have hs1 := s_pos hs.1 hl (by omega)
    have c2 := mx_cases 0 (w2 - f - s * ((14 : Nat) : Int))
    omega
/-- twice: the law's own count -/
theorem twice_some {k f d w1 w2 g s c : Int} (hs : 0 ≤ s ∧ s ≤ 12) (hg : g ≤ k) (hf : 0 ≤ f) (hw1 : w1 ≤ k) (hw2 : w2 ≤ k) (h0 : ¬ (2 * w1 ≤ k + f ∧ 2 * w2 ≤ k + f)) (h1 : ¬ 2 * w1 ≤ k + s + f) (hs1 : 0 < s) (hb : g ≤ k - mx 0 (w2 - f - s))
    (hc : 2 ≤ c) (h2 : w1 ≤ k - mx (mx 0 (w1 - f - c * s)) (w2 - f - c * s)) (h3 : ∀ c', 2 ≤ c' → c' < c → ¬ w1 ≤ k - mx (mx 0 (w1 - f - c' * s)) (w2 - f - c' * s)) : twiceO k f d w1 w2 g s = some ((c - 1) * d + 1) := by
  have e0 : ¬ 2 * mx w1 w2 ≤ k + f := by unfold mx; split <;> omega
  unfold twiceO
  rw [if_neg e0, if_neg (by unfold nearI; omega)]
  have hl : singleB k f w1 w2 g s = false := by
    unfold singleB farI
    rw [show decide (s = 0) = false from decide_eq_false (by omega), Bool.false_or]
    rw [show decide (0 < g + w2 - k - s - f) = false from decide_eq_false ?_, Bool.and_false]
    unfold mx at hb
    split at hb <;> omega
  rw [hl, if_neg Bool.false_ne_true]
  have key : timesI (needI k f w1 w2) s = c := by
    refine times_first (by omega) hs.2 ?_ ?_
    · rw [Int.mul_comm s c]
      generalize c * s = cs at h2 ⊢
      unfold needI
      unfold mx at h2 ⊢
      split at h2 <;> split at h2 <;> split <;> omega
    · by_cases h : c = 2
      · subst h
        unfold needI mx
        split <;> omega
      · have := h3 (c - 1) (by omega) (by omega)
        rw [Int.mul_comm s (c - 1)]
        generalize (c - 1) * s = cs at this ⊢
        unfold needI
        unfold mx at this ⊢
        split at this <;> split at this <;> split <;> omega
  rw [key]
theorem twice_none {k f d w1 w2 g s : Int} (hs : 0 ≤ s ∧ s ≤ 12) (hk : 1 ≤ k ∧ k ≤ 12) (hg : g ≤ k) (hf : 0 ≤ f) (hw1 : w1 ≤ k) (hw2 : w2 ≤ k) (h0 : ¬ (2 * w1 ≤ k + f ∧ 2 * w2 ≤ k + f)) (h1 : ¬ 2 * w1 ≤ k + s + f)
    (h3 : ∀ c', 2 ≤ c' → c' < k + 2 → 0 < s → g ≤ k - mx 0 (w2 - f - s) → ¬ w1 ≤ k - mx (mx 0 (w1 - f - c' * s)) (w2 - f - c' * s)) : twiceO k f d w1 w2 g s = none := by
  have e0 : ¬ 2 * mx w1 w2 ≤ k + f := by unfold mx; split <;> omega
  unfold twiceO
  rw [if_neg e0, if_neg (by unfold nearI; omega)]
  have hl : singleB k f w1 w2 g s = true := by
    unfold singleB nearI farI
    rw [decide_eq_true (by omega), Bool.true_and]
    by_cases hs0 : s = 0
    · rw [decide_eq_true hs0]; rfl
    · rw [show decide (s = 0) = false from decide_eq_false hs0, Bool.false_or]
      by_cases hb : g ≤ k - mx 0 (w2 - f - s)
      · exfalso
        have := h3 (k + 1) (by omega) (by omega) (by omega) hb
        have hm : (k + 1) * 1 ≤ (k + 1) * s := Int.mul_le_mul_of_nonneg_left (by omega) (by omega)
        generalize (k + 1) * s = cs at this hm
        unfold mx at this
        split at this <;> split at this <;> omega
      · refine decide_eq_true ?_
        unfold mx at hb
        split at hb <;> omega
  rw [hl, if_pos rfl]
end K26

namespace K26
open PySem PySem.Spec PyProof.Rows L2 Hl
def top (i : Nat) : Stmt := PySem.Challenge.pw_piecesapart_k26_whole_thresholds.main.body.getD i (.Pass ⟨0, 0, 0, 0⟩)
abbrev s_near_slack : Stmt := top 2
abbrev N_near_slack : List Str := ["numbers", "spread"]
theorem sc_near_slack : FnScope N_near_slack ["numbers", "spread"] (defScope s_near_slack) := ⟨rfl, rfl, rfl, by decide +kernel, rfl, by decide +kernel, by decide +kernel⟩
abbrev s_far_slack : Stmt := top 3
abbrev N_far_slack : List Str := ["numbers", "spread"]
theorem sc_far_slack : FnScope N_far_slack ["numbers", "spread"] (defScope s_far_slack) := ⟨rfl, rfl, rfl, by decide +kernel, rfl, by decide +kernel, by decide +kernel⟩
abbrev s_mend_slack : Stmt := top 4
abbrev N_mend_slack : List Str := ["numbers", "spread"]
theorem sc_mend_slack : FnScope N_mend_slack ["numbers", "spread"] (defScope s_mend_slack) := ⟨rfl, rfl, rfl, by decide +kernel, rfl, by decide +kernel, by decide +kernel⟩
abbrev s_is_single : Stmt := top 5
abbrev N_is_single : List Str := ["numbers", "spread"]
theorem sc_is_single : FnScope N_is_single ["numbers", "spread"] (defScope s_is_single) := ⟨rfl, rfl, rfl, by decide +kernel, rfl, by decide +kernel, by decide +kernel⟩
abbrev s_is_lasting : Stmt := top 6
abbrev N_is_lasting : List Str := ["numbers", "spread"]
theorem sc_is_lasting : FnScope N_is_lasting ["numbers", "spread"] (defScope s_is_lasting) := ⟨rfl, rfl, rfl, by decide +kernel, rfl, by decide +kernel, by decide +kernel⟩
abbrev s_is_safe : Stmt := top 7
abbrev N_is_safe : List Str := ["numbers", "spread"]
theorem sc_is_safe : FnScope N_is_safe ["numbers", "spread"] (defScope s_is_safe) := ⟨rfl, rfl, rfl, by decide +kernel, rfl, by decide +kernel, by decide +kernel⟩
abbrev s_times_over : Stmt := top 8
abbrev N_times_over : List Str := ["many", "spread"]
theorem sc_times_over : FnScope N_times_over ["many", "spread"] (defScope s_times_over) := ⟨rfl, rfl, rfl, by decide +kernel, rfl, by decide +kernel, by decide +kernel⟩
abbrev s_must_leave : Stmt := top 9
abbrev N_must_leave : List Str := ["numbers"]
theorem sc_must_leave : FnScope N_must_leave ["numbers"] (defScope s_must_leave) := ⟨rfl, rfl, rfl, by decide +kernel, rfl, by decide +kernel, by decide +kernel⟩
abbrev s_words_to_twice : Stmt := top 10
abbrev N_words_to_twice : List Str := ["numbers", "spread"]
theorem sc_words_to_twice : FnScope N_words_to_twice ["numbers", "spread"] (defScope s_words_to_twice) := ⟨rfl, rfl, rfl, by decide +kernel, rfl, by decide +kernel, by decide +kernel⟩
abbrev s_keepers_beyond : Stmt := top 11
abbrev N_keepers_beyond : List Str := ["numbers"]
theorem sc_keepers_beyond : FnScope N_keepers_beyond ["numbers"] (defScope s_keepers_beyond) := ⟨rfl, rfl, rfl, by decide +kernel, rfl, by decide +kernel, by decide +kernel⟩
abbrev s_words_to_gone : Stmt := top 12
abbrev N_words_to_gone : List Str := ["numbers", "spread", "beyond"]
theorem sc_words_to_gone : FnScope N_words_to_gone ["numbers", "spread"] (defScope s_words_to_gone) := ⟨rfl, rfl, rfl, by decide +kernel, rfl, by decide +kernel, by decide +kernel⟩
abbrev s_left_behind : Stmt := top 13
abbrev N_left_behind : List Str := ["numbers", "spread", "words", "changes"]
theorem sc_left_behind : FnScope N_left_behind ["numbers", "spread", "words"] (defScope s_left_behind) := ⟨rfl, rfl, rfl, by decide +kernel, rfl, by decide +kernel, by decide +kernel⟩
abbrev s_is_safe_for : Stmt := top 14
abbrev N_is_safe_for : List Str := ["numbers", "spread", "words", "fewest"]
theorem sc_is_safe_for : FnScope N_is_safe_for ["numbers", "spread", "words"] (defScope s_is_safe_for) := ⟨rfl, rfl, rfl, by decide +kernel, rfl, by decide +kernel, by decide +kernel⟩
abbrev s_liars_borne : Stmt := top 15
abbrev N_liars_borne : List Str := ["numbers", "spread", "most"]
theorem sc_liars_borne : FnScope N_liars_borne ["numbers", "spread"] (defScope s_liars_borne) := ⟨rfl, rfl, rfl, by decide +kernel, rfl, by decide +kernel, by decide +kernel⟩
abbrev s_spread_borne : Stmt := top 16
abbrev N_spread_borne : List Str := ["numbers", "most"]
theorem sc_spread_borne : FnScope N_spread_borne ["numbers"] (defScope s_spread_borne) := ⟨rfl, rfl, rfl, by decide +kernel, rfl, by decide +kernel, by decide +kernel⟩
abbrev s_pieces_borne : Stmt := top 17
abbrev N_pieces_borne : List Str := ["numbers", "spread", "most"]
theorem sc_pieces_borne : FnScope N_pieces_borne ["numbers", "spread"] (defScope s_pieces_borne) := ⟨rfl, rfl, rfl, by decide +kernel, rfl, by decide +kernel, by decide +kernel⟩
abbrev s_least_triples : Stmt := top 18
abbrev N_least_triples : List Str := ["k", "f", "m", "spread", "most", "first", "both", "second"]
theorem sc_least_triples : FnScope N_least_triples ["k", "f", "m", "spread", "most"] (defScope s_least_triples) := ⟨rfl, rfl, rfl, by decide +kernel, rfl, by decide +kernel, by decide +kernel⟩
abbrev s_cheapest_triple : Stmt := top 19
abbrev N_cheapest_triple : List Str := ["k", "f", "m", "spread", "most", "prices", "best", "triple", "cost", "one", "price"]
theorem sc_cheapest_triple : FnScope N_cheapest_triple ["k", "f", "m", "spread", "most", "prices"] (defScope s_cheapest_triple) := ⟨rfl, rfl, rfl, by decide +kernel, rfl, by decide +kernel, by decide +kernel⟩
abbrev s_is_integer : Stmt := top 24
abbrev N_is_integer : List Str := ["value"]
theorem sc_is_integer : FnScope N_is_integer ["value"] (defScope s_is_integer) := ⟨rfl, rfl, rfl, by decide +kernel, rfl, by decide +kernel, by decide +kernel⟩
abbrev s_is_number : Stmt := top 25
abbrev N_is_number : List Str := ["value", "most"]
theorem sc_is_number : FnScope N_is_number ["value", "most"] (defScope s_is_number) := ⟨rfl, rfl, rfl, by decide +kernel, rfl, by decide +kernel, by decide +kernel⟩
abbrev s_Numbers_init : Stmt := inClass (top 30) 0
abbrev N_Numbers_init : List Str := ["self", "k", "f", "d", "m", "w1", "w2", "g", "place", "many"]
theorem sc_Numbers_init : FnScope N_Numbers_init ["self", "k", "f", "d", "m", "w1", "w2", "g"] (defScope s_Numbers_init) := ⟨rfl, rfl, rfl, by decide +kernel, rfl, by decide +kernel, by decide +kernel⟩
abbrev s_can_end : Stmt := top 31
abbrev N_can_end : List Str := ["numbers"]
theorem sc_can_end : FnScope N_can_end ["numbers"] (defScope s_can_end) := ⟨rfl, rfl, rfl, by decide +kernel, rfl, by decide +kernel, by decide +kernel⟩
abbrev s__law_heap : Stmt := top 33
abbrev N__law_heap : List Str := ["script", "cells", "stir", "cell"]
theorem sc__law_heap : FnScope N__law_heap ["script"] (defScope s__law_heap) := ⟨rfl, rfl, rfl, by decide +kernel, rfl, by decide +kernel, by decide +kernel⟩
abbrev s__law_draw : Stmt := top 34
abbrev N__law_draw : List Str := ["heap", "many", "rest"]
theorem sc__law_draw : FnScope N__law_draw ["heap", "many"] (defScope s__law_draw) := ⟨rfl, rfl, rfl, by decide +kernel, rfl, by decide +kernel, by decide +kernel⟩
abbrev s__law_pick : Stmt := top 35
abbrev N__law_pick : List Str := ["heap", "some"]
theorem sc__law_pick : FnScope N__law_pick ["heap", "some"] (defScope s__law_pick) := ⟨rfl, rfl, rfl, by decide +kernel, rfl, by decide +kernel, by decide +kernel⟩
abbrev s__law_like : Stmt := top 36
abbrev N__law_like : List Str := ["told", "due", "one", "other"]
theorem sc__law_like : FnScope N__law_like ["told", "due"] (defScope s__law_like) := ⟨rfl, rfl, rfl, by decide +kernel, rfl, by decide +kernel, by decide +kernel⟩
abbrev s__law_single : Stmt := top 37
abbrev N__law_single : List Str := ["k", "f", "spread", "triple", "w1", "w2", "g"]
theorem sc__law_single : FnScope N__law_single ["k", "f", "spread", "triple"] (defScope s__law_single) := ⟨rfl, rfl, rfl, by decide +kernel, rfl, by decide +kernel, by decide +kernel⟩
abbrev s__law_lasting : Stmt := top 38
abbrev N__law_lasting : List Str := ["k", "f", "m", "spread", "triple", "w1", "w2", "g", "others"]
theorem sc__law_lasting : FnScope N__law_lasting ["k", "f", "m", "spread", "triple"] (defScope s__law_lasting) := ⟨rfl, rfl, rfl, by decide +kernel, rfl, by decide +kernel, by decide +kernel⟩
abbrev s__law_twice : Stmt := top 39
abbrev N__law_twice : List Str := ["k", "f", "spread", "d", "triple", "w1", "w2", "g", "blank", "changes", "free"]
theorem sc__law_twice : FnScope N__law_twice ["k", "f", "spread", "d", "triple"] (defScope s__law_twice) := ⟨rfl, rfl, rfl, by decide +kernel, rfl, by decide +kernel, by decide +kernel⟩
abbrev s__law_left : Stmt := top 40
abbrev N__law_left : List Str := ["k", "f", "m", "spread", "d", "triple", "words", "w1", "w2", "g", "left", "done", "at"]
theorem sc__law_left : FnScope N__law_left ["k", "f", "m", "spread", "d", "triple", "words"] (defScope s__law_left) := ⟨rfl, rfl, rfl, by decide +kernel, rfl, by decide +kernel, by decide +kernel⟩
abbrev s__law_gone : Stmt := top 41
abbrev N__law_gone : List Str := ["k", "f", "m", "spread", "d", "triple", "words", "at"]
theorem sc__law_gone : FnScope N__law_gone ["k", "f", "m", "spread", "d", "triple"] (defScope s__law_gone) := ⟨rfl, rfl, rfl, by decide +kernel, rfl, by decide +kernel, by decide +kernel⟩
abbrev s__law_asked_safety : Stmt := top 42
abbrev N__law_asked_safety : List Str := ["heap", "k", "f", "m", "spread", "d", "triple", "numbers", "twice", "gone", "single", "lasting", "told", "far", "edges", "words", "one"]
theorem sc__law_asked_safety : FnScope N__law_asked_safety ["heap", "k", "f", "m", "spread", "d", "triple"] (defScope s__law_asked_safety) := ⟨rfl, rfl, rfl, by decide +kernel, rfl, by decide +kernel, by decide +kernel⟩
abbrev s__law_safe : Stmt := top 43
abbrev N__law_safe : List Str := ["k", "f", "m", "spread", "triple"]
theorem sc__law_safe : FnScope N__law_safe ["k", "f", "m", "spread", "triple"] (defScope s__law_safe) := ⟨rfl, rfl, rfl, by decide +kernel, rfl, by decide +kernel, by decide +kernel⟩
abbrev s__law_asked_borne : Stmt := top 44
abbrev N__law_asked_borne : List Str := ["k", "f", "m", "spread", "d", "triple", "numbers", "liars", "spreads", "pieces", "many"]
theorem sc__law_asked_borne : FnScope N__law_asked_borne ["k", "f", "m", "spread", "d", "triple"] (defScope s__law_asked_borne) := ⟨rfl, rfl, rfl, by decide +kernel, rfl, by decide +kernel, by decide +kernel⟩
abbrev s__law_least : Stmt := top 45
abbrev N__law_least : List Str := ["k", "f", "m", "spread", "most", "found", "w1", "w2", "g", "less", "one"]
theorem sc__law_least : FnScope N__law_least ["k", "f", "m", "spread", "most"] (defScope s__law_least) := ⟨rfl, rfl, rfl, by decide +kernel, rfl, by decide +kernel, by decide +kernel⟩
abbrev s__law_asked_least : Stmt := top 46
abbrev N__law_asked_least : List Str := ["heap", "k", "f", "m", "spread", "most", "due", "prices", "costs", "best", "ends", "turn", "triple", "one", "price"]
theorem sc__law_asked_least : FnScope N__law_asked_least ["heap", "k", "f", "m", "spread"] (defScope s__law_asked_least) := ⟨rfl, rfl, rfl, by decide +kernel, rfl, by decide +kernel, by decide +kernel⟩
abbrev s_law : Stmt := top 47
abbrev N_law : List Str := ["script", "heap", "k", "f", "m", "spread", "d", "triple", "edge", "both", "edges", "one"]
theorem sc_law : FnScope N_law ["script"] (defScope s_law) := ⟨rfl, rfl, rfl, by decide +kernel, rfl, by decide +kernel, by decide +kernel⟩
/-- what the top has written -/
structure Txt (K : PySem.W.Frag) (mg : Str → Option Value) where
  isinstance : mg "isinstance" = none
  int : mg "int" = none
  bool : mg "bool" = none
  str : mg "str" = none
  tuple : mg "tuple" = none
  range : mg "range" = none
  zip : mg "zip" = none
  enumerate : mg "enumerate" = none
  len : mg "len" = none
  abs : mg "abs" = none
  min : mg "min" = none
  max : mg "max" = none
  sum : mg "sum" = none
  all : mg "all" = none
  any : mg "any" = none
  t1 : Tok
  c_MOST_COPIES : mg "MOST_COPIES" = some (.int 12 t1)
  t2 : Tok
  c_MOST_LAG : mg "MOST_LAG" = some (.int 200 t2)
  t3 : Tok
  c_MOST_PIECES : mg "MOST_PIECES" = some (.int 6 t3)
  t4 : Tok
  c_MOST_MADE : mg "MOST_MADE" = some (.int 6 t4)
  C_Numbers : Addr
  fI : Addr
  m_Numbers : mg "Numbers" = some (.ref C_Numbers)
  mk_Numbers : Mk K C_Numbers fI
  cl : Cls K C_Numbers
  nk : NoAttr K C_Numbers "k"
  nf : NoAttr K C_Numbers "f"
  nd : NoAttr K C_Numbers "d"
  nm : NoAttr K C_Numbers "m"
  nw1 : NoAttr K C_Numbers "w1"
  nw2 : NoAttr K C_Numbers "w2"
  ng : NoAttr K C_Numbers "g"
  i1 : PySem.W.findIn K (.ref C_Numbers) "__class__" = some (some (.builtin "object.__class__"))
  i2 : PySem.W.specialIn K (.builtin "object.__class__") "__get__" = some (some (.builtin "getset_descriptor.__get__"))
  i3 : PySem.W.takesIn K (.builtin "object.__class__") = some true
  i4 : PySem.W.mroIn K C_Numbers (.type "object") = some true
  i5 : PySem.W.kitOne K (.ref C_Numbers) (.ref C_Numbers) = some true

section
variable {P : Program} {w : World} {K : PySem.W.Frag} {mg : Str → Option Value} {base : Heap}
def sp_is_integer : Sp := fun vs H Q _ => ∃ i : Int, vs = [.int i] ∧ Q (.bl true) H
theorem ok_is_integer {f : Addr} {fd : FuncData} (F : Fun K "is_integer" "is_integer" s_is_integer f fd) (T : Txt K mg) : FnOk P w K mg base CX0 1 f fd ["value"] sp_is_integer := by
  refine F.ok sc_is_integer (fun vs H Q E h => ?_) (fun cdv A outer s H vs Q E hr h => ?_)
  · obtain ⟨i, rfl, _⟩ := h
    rfl
  · obtain ⟨i, rfl, q⟩ := h
    refine ⟨_, (pss_one (ps_ret (pe_and (pe_callB call_isiS (by rfl) T.isinstance (by decide +kernel) (pa_cons (pv 0) (pa_cons (pe_ty "int" (by rfl) T.int) pa_nil))) (pe_one (pe_not (pe_callB call_isiS (by rfl) T.isinstance (by decide +kernel) (pa_cons (pv 0) (pa_cons (pe_ty "bool" (by rfl) T.bool) pa_nil)))))))), ?_⟩
    refine ⟨_, rfl, isi_int _ ⟨_, rfl, iteT ⟨_, rfl, isi_intb _ ⟨_, rfl, q⟩⟩⟩⟩

def sp_is_number : Sp := fun vs H Q _ => ∃ i most : Int, vs = [.int i, .int most] ∧ 0 ≤ i ∧ i ≤ most ∧ Q (.bl true) H
theorem ok_is_number {f : Addr} {fd : FuncData} (F : FunD K "is_number" "is_number" (defArgs s_is_number) (defBody s_is_number) (defScope s_is_number) [.non] [] f fd) (T : Txt K mg) (D_is_integer : Df P w K mg base 1 "is_integer" ["value"] sp_is_integer) : FnOk P w K mg base CX0 2 f fd ["value", "most"] sp_is_number := by
  refine F.ok sc_is_number (fun vs H Q E h => ?_) (fun cdv A outer s H vs Q E hr h => ?_)
  · obtain ⟨_, _, rfl, _⟩ := h
    rfl
  · obtain ⟨i, most, rfl, h0, h1, q⟩ := h
    refine ⟨_, (pss_one (ps_ret (pe_and (pe_call D_is_integer.ok (hr.mono (by first | decide | omega)) (by rfl) D_is_integer.m D_is_integer.kp D_is_integer.b .nil pass0 (pa_cons (pv 0) pa_nil)) (pe_and (pe_cmpR op_ge (pv 0) pe_int (nomark _)) (pe_one (pe_or (pe_cmpR op_isN (pv 1) pe_non (nomark _)) (pe_one (pe_cmpR op_le (pv 0) (pv 1) (nomark _))))))))), ?_⟩
    refine ⟨_, rfl, i, rfl, _, rfl, iteT ⟨_, rfl, _, _, rfl, rfl, _, rfl, ite_dec (fun _ => ?_) (fun z => (z h0).elim)⟩⟩
    refine ⟨_, rfl, rfl, _, rfl, iteF ⟨_, rfl, _, rfl, _, _, rfl, rfl, ?_⟩⟩
    show Q (.bl (decide (i ≤ most))) H
    rw [decide_eq_true h1]
    exact q

theorem putlen {f : Str} {v : V} {fs : List (Str × V)} {n : Nat} (h : fs.length ≤ n) : (putF f v fs).length ≤ n + 1 := Nat.le_trans (length_putF f v fs) (Nat.succ_le_succ h)
theorem lt1000 {n m : Nat} (h : n ≤ m) (hm : m < 1000 := by decide) : n < 1000 := Nat.lt_of_le_of_lt h hm
/-- the fields of numbers -/
def numF (k f d m w1 w2 g : Int) : List (Str × V) := putF "g" (.int g) (putF "w2" (.int w2) (putF "w1" (.int w1) (putF "m" (.int m) (putF "d" (.int d) (putF "f" (.int f) (putF "k" (.int k) []))))))
def sp_Numbers_init (C : Addr) : Sp := fun vs H Q _ => ∃ (x dx : Addr) (k f d m w1 w2 g : Int), vs = [.ref x, .int k, .int f, .int d, .int m, .int w1, .int w2, .int g] ∧ H x = some (.ins C dx []) ∧
  (1 ≤ k ∧ k ≤ 12) ∧ (0 ≤ f ∧ f ≤ k) ∧ (1 ≤ d ∧ d ≤ 200) ∧ (1 ≤ m ∧ m ≤ k ∧ m ≤ 6) ∧ (1 ≤ w1 ∧ w1 ≤ k) ∧ (1 ≤ w2 ∧ w2 ≤ k) ∧ (1 ≤ g ∧ g ≤ k) ∧
  ∀ H' : Hp, (∀ b o, b ≠ x → H b = some o → H' b = some o) → H' x = some (.ins C dx (numF k f d m w1 w2 g)) → Q .non H'
theorem ok_Numbers_init {f : Addr} {fd : FuncData} (F : Fun K "__init__" "Numbers.__init__" s_Numbers_init f fd) (T : Txt K mg) (D_is_number : Df P w K mg base 2 "is_number" ["value", "most"] sp_is_number) : FnOk P w K mg base CX0 3 f fd ["self", "k", "f", "d", "m", "w1", "w2", "g"] (sp_Numbers_init T.C_Numbers) := by
  refine F.ok sc_Numbers_init (fun vs H Q E h => ?_) (fun cdv A outer s H vs Q E hr h => ?_)
  · obtain ⟨_, _, _, _, _, _, _, _, _, rfl, _⟩ := h
    rfl
  · obtain ⟨x, dx, k, f, d, m, w1, w2, g, rfl, hx, hk, hf, hd, hm, hw1, hw2, hg, q⟩ := h
    refine ⟨_, (pss_cons (ps_if (PW.pt (pw_or (pt_not (pt_val (pe_call D_is_number.ok (hr.mono (by first | decide | omega)) (by rfl) D_is_number.m D_is_number.kp D_is_number.b .nil pass0 (pa_cons (pv 1) (pa_cons (pe_glob (v := .int 12) (by rfl) T.c_MOST_COPIES ⟨_, rfl⟩) pa_nil))))) (pw_or1 (pt_cmpR op_eq (pv 1) pe_int (nomark _)))))
  (pss_one ps_never)
  pss_nil)
  (pss_cons (ps_if (pt_not (pt_val (pe_call D_is_number.ok (hr.mono (by first | decide | omega)) (by rfl) D_is_number.m D_is_number.kp D_is_number.b .nil pass0 (pa_cons (pv 2) (pa_cons (pv 1) pa_nil)))))
  (pss_one ps_never)
  pss_nil)
  (pss_cons (ps_if (PW.pt (pw_or (pt_not (pt_val (pe_call D_is_number.ok (hr.mono (by first | decide | omega)) (by rfl) D_is_number.m D_is_number.kp D_is_number.b .nil pass0 (pa_cons (pv 3) (pa_cons (pe_glob (v := .int 200) (by rfl) T.c_MOST_LAG ⟨_, rfl⟩) pa_nil))))) (pw_or1 (pt_cmpR op_eq (pv 3) pe_int (nomark _)))))
  (pss_one ps_never)
  pss_nil)
  (pss_cons (ps_if (PW.pt (pw_or (pt_not (pt_val (pe_call D_is_number.ok (hr.mono (by first | decide | omega)) (by rfl) D_is_number.m D_is_number.kp D_is_number.b .nil pass0 (pa_cons (pv 4) (pa_cons (pe_callB (call_min2 rfl) (by rfl) T.min (by decide +kernel) (pa_cons (pv 1) (pa_cons (pe_glob (v := .int 6) (by rfl) T.c_MOST_PIECES ⟨_, rfl⟩) pa_nil))) pa_nil))))) (pw_or1 (pt_cmpR op_eq (pv 4) pe_int (nomark _)))))
  (pss_one ps_never)
  pss_nil)
  (pss_cons (ps_for PassesOwn.never rfl (pi_enumT (by rfl) T.enumerate (pa_cons (pe_tup (pa_cons (pv 5) (pa_cons (pv 6) (pa_cons (pv 7) pa_nil)))) pa_nil)) (pg_tup rfl (pgs_cons (pg_name (i := 8) sc_Numbers_init.nd rfl (by first | exact Or.inl rfl | exact Or.inr rfl)) (pgs_cons (pg_name (i := 9) sc_Numbers_init.nd rfl (by first | exact Or.inl rfl | exact Or.inr rfl)) pgs_nil)))
  (pss_one (ps_if (PW.pt (pw_or (pt_not (pt_val (pe_call D_is_number.ok (hr.mono (by first | decide | omega)) (by rfl) D_is_number.m D_is_number.kp D_is_number.b .nil pass0 (pa_cons (pv 9) (pa_cons (pv 1) pa_nil))))) (pw_or1 (pt_cmpR op_eq (pv 9) pe_int (nomark _)))))
  (pss_one ps_never)
  pss_nil)))
  (pss_cons (ps_fld (pv 0) (pv 1) rfl)
  (pss_cons (ps_fld (pv 0) (pv 2) rfl)
  (pss_cons (ps_fld (pv 0) (pv 3) rfl)
  (pss_cons (ps_fld (pv 0) (pv 4) rfl)
  (pss_cons (ps_fld (pv 0) (pv 5) rfl)
  (pss_cons (ps_fld (pv 0) (pv 6) rfl)
  (pss_one (ps_fld (pv 0) (pv 7) rfl))))))))))))), ?_⟩
    have ne0 : ∀ {i : Int} {A B : Prop}, 1 ≤ i → B → if decide (V.int i = V.int 0) = true then A else B := fun hi hB => ite_dec (fun z => by injection z; omega) fun _ => hB
    refine ⟨_, rfl, k, 12, rfl, by omega, by omega, _, rfl, iteF ⟨_, rfl, rfl, _, rfl, ne0 hk.1 ?_⟩⟩
    refine ⟨_, rfl, _, rfl, f, k, rfl, by omega, by omega, _, rfl, iteF ?_⟩
    refine ⟨_, rfl, d, 200, rfl, by omega, by omega, _, rfl, iteF ⟨_, rfl, rfl, _, rfl, ne0 hd.1 ?_⟩⟩
    refine ⟨_, rfl, _, rfl, _, _, rfl, ?_⟩
    refine ⟨m, _, rfl, by omega, by split <;> omega, _, rfl, iteF ⟨_, rfl, rfl, _, rfl, ne0 hm.1 ?_⟩⟩
    refine ⟨_, rfl, _, rfl, _, rfl, (by show 3 ≤ sizeLine; decide), fun t ht => ⟨t, _, rfl, SqT.of upd_same, ?_⟩⟩
    refine for_it (walk_enumT (xs := [.int w1, .int w2, .int g])) (fun i σ H' => ∃ a b, σ = [some (.ref x), some (.int k), some (.int f), some (.int d), some (.int m), some (.int w1), some (.int w2), some (.int g), a, b] ∧ Same (upd H t (.tup [.int w1, .int w2, .int g])) H')
      ⟨none, none, rfl, Same.refl _⟩ (fun i σ H' _ ⟨_, _, _, sm⟩ => SqT.of (sm _ _ upd_same)) ?_ ?_
    · rintro i y σ H1 H2 hi ⟨a, b, rfl, sm⟩ ⟨T', y1, y2, rfl, hT, rfl, e1, e2⟩
      obtain ⟨z, rfl, hz1, hz2⟩ : ∃ z : Int, y2 = .int z ∧ 1 ≤ z ∧ z ≤ k := by
        match i, hi, e2 with
        | 0, _, e2 => exact ⟨w1, (Option.some.inj e2).symm, hw1⟩
        | 1, _, e2 => exact ⟨w2, (Option.some.inj e2).symm, hw2⟩
        | 2, _, e2 => exact ⟨g, (Option.some.inj e2).symm, hg⟩
        | n + 3, h, _ => simp at h; omega
      refine ⟨T', _, rfl, SqT.of upd_same, rfl, y1, _, rfl, .int z, [], rfl, rfl, ?_⟩
      refine ⟨_, rfl, _, rfl, z, k, rfl, by omega, by omega, _, rfl, iteF ⟨_, rfl, rfl, _, rfl, ne0 hz1 ?_⟩⟩
      exact ⟨_, _, rfl, sm.trans (same_new hT)⟩
    · rintro σ H1 ⟨a, b, rfl, sm⟩
      have nxt : x ≠ t := ne_of_none hx ht
      have hx1 : H1 x = some (.ins T.C_Numbers dx []) := sm _ _ (by rw [upd_ne nxt]; exact hx)
      refine ⟨_, rfl, _, rfl, x, T.C_Numbers, dx, _, rfl, hx1, T.cl, T.nk, (lt1000 (Nat.zero_le 0)), ?_⟩
      refine ⟨_, rfl, _, rfl, x, T.C_Numbers, dx, _, rfl, upd_same, T.cl, T.nf, (lt1000 (putlen (Nat.zero_le 0))), ?_⟩
      refine ⟨_, rfl, _, rfl, x, T.C_Numbers, dx, _, rfl, upd_same, T.cl, T.nd, (lt1000 (putlen (putlen (Nat.zero_le 0)))), ?_⟩
      refine ⟨_, rfl, _, rfl, x, T.C_Numbers, dx, _, rfl, upd_same, T.cl, T.nm, (lt1000 (putlen (putlen (putlen (Nat.zero_le 0))))), ?_⟩
      refine ⟨_, rfl, _, rfl, x, T.C_Numbers, dx, _, rfl, upd_same, T.cl, T.nw1, (lt1000 (putlen (putlen (putlen (putlen (Nat.zero_le 0)))))), ?_⟩
      refine ⟨_, rfl, _, rfl, x, T.C_Numbers, dx, _, rfl, upd_same, T.cl, T.nw2, (lt1000 (putlen (putlen (putlen (putlen (putlen (Nat.zero_le 0))))))), ?_⟩
      refine ⟨_, rfl, _, rfl, x, T.C_Numbers, dx, _, rfl, upd_same, T.cl, T.ng, (lt1000 (putlen (putlen (putlen (putlen (putlen (putlen (Nat.zero_le 0)))))))), ?_⟩
      refine q _ (fun b o hb hH => ?_) upd_same
      rw [upd_ne hb, upd_ne hb, upd_ne hb, upd_ne hb, upd_ne hb, upd_ne hb, upd_ne hb]
      exact sm _ _ (same_new ht _ _ hH)


theorem numF_at (k f d m w1 w2 g : Int) : (numF k f d m w1 w2 g).lookup ("k" : Str) = some (.int k) ∧ (numF k f d m w1 w2 g).lookup ("f" : Str) = some (.int f) ∧ (numF k f d m w1 w2 g).lookup ("d" : Str) = some (.int d) ∧ (numF k f d m w1 w2 g).lookup ("m" : Str) = some (.int m) ∧
    (numF k f d m w1 w2 g).lookup ("w1" : Str) = some (.int w1) ∧ (numF k f d m w1 w2 g).lookup ("w2" : Str) = some (.int w2) ∧ (numF k f d m w1 w2 g).lookup ("g" : Str) = some (.int g) := by
  unfold numF
  refine ⟨?_, ?_, ?_, ?_, ?_, ?_, ?_⟩ <;> simp only [lookup_putF] <;> rfl
end
end K26

namespace K26
open PySem PySem.Spec PyProof.Rows L2 Hl
/-- the bounds of all numbers here -/
structure Ok (k f d m w1 w2 g s : Int) : Prop where
  k1 : 1 ≤ k
  k2 : k ≤ 12
  f1 : 0 ≤ f
  f2 : f ≤ k
  d1 : 1 ≤ d
  d2 : d ≤ 200
  m1 : 1 ≤ m
  m2 : m ≤ 6
  a1 : 1 ≤ w1
  a2 : w1 ≤ k
  b1 : 1 ≤ w2
  b2 : w2 ≤ k
  g1 : 1 ≤ g
  g2 : g ≤ k
  s1 : 0 ≤ s
  s2 : s ≤ 12
def optV : Option Int → V
  | none => .non
  | some i => .int i
def NumAt (C : Addr) (H : Hp) (p : Addr) (k f d m w1 w2 g : Int) : Prop := ∃ dx, H p = some (.ins C dx (numF k f d m w1 w2 g))
/-- a function of numbers and a spread that reads alone -/
def spNum (C : Addr) (F : Int → Int → Int → Int → Int → Int → Int → Int → V) : Sp := fun vs H Q _ => ∃ (p : Addr) (k f d m w1 w2 g s : Int), vs = [.ref p, .int s] ∧ NumAt C H p k f d m w1 w2 g ∧ Ok k f d m w1 w2 g s ∧ Q (F k f d m w1 w2 g s) H
def spNum1 (C : Addr) (F : Int → Int → Int → Int → Int → Int → Int → V) : Sp := fun vs H Q _ => ∃ (p : Addr) (k f d m w1 w2 g : Int), vs = [.ref p] ∧ NumAt C H p k f d m w1 w2 g ∧ Ok k f d m w1 w2 g 0 ∧ Q (F k f d m w1 w2 g) H
theorem eqz {s : Int} {A B : Prop} (h1 : s = 0 → A) (h2 : s ≠ 0 → B) : if decide (V.int s = V.int 0) = true then A else B := ite_dec (fun z => h1 (V.int.inj z)) fun z => h2 fun e => z (by rw [e])
theorem dec0 {s : Int} : decide (V.int s = V.int 0) = decide (s = 0) := by
  by_cases h : s = 0
  · rw [h, decide_eq_true rfl, decide_eq_true rfl]
  · rw [show decide (s = 0) = false from decide_eq_false h, decide_eq_false fun z => h (V.int.inj z)]
section
variable {P : Program} {w : World} {K : PySem.W.Frag} {mg : Str → Option Value} {base : Heap}
theorem ok_near {f : Addr} {fd : FuncData} (F : Fun K "near_slack" "near_slack" s_near_slack f fd) (T : Txt K mg) : FnOk P w K mg base CX0 1 f fd ["numbers", "spread"] (spNum T.C_Numbers fun k f d m w1 w2 g s => .int (nearI k f w1 s)) := by
  refine F.ok sc_near_slack (fun vs H Q E h => ?_) (fun cdv A outer st H vs Q E hr h => ?_)
  · obtain ⟨_, _, _, _, _, _, _, _, _, rfl, _⟩ := h
    rfl
  · obtain ⟨p, k, f, d, m, w1, w2, g, s, rfl, ⟨dx, hp⟩, o, q⟩ := h
    obtain ⟨e_k, e_f, e_d, e_m, e_w1, e_w2, e_g⟩ := numF_at k f d m w1 w2 g
    refine ⟨_, (pss_one (ps_ret (pe_op op_sub (pe_op op_sub (pe_op op_sub (pe_op op_mul pe_int (pe_fld (pv 0) rfl)) (pe_fld (pv 0) rfl)) (pv 1)) (pe_fld (pv 0) rfl)))), ?_⟩
    exact ⟨_, rfl, p, T.C_Numbers, dx, _, _, rfl, hp, T.cl, T.nw1, e_w1, _, _, rfl, rfl, .inl ⟨by decide, by decide⟩, _, rfl, p, T.C_Numbers, dx, _, _, rfl, hp, T.cl, T.nk, e_k, _, _, rfl, rfl, _, rfl, _, _, rfl, rfl, _, rfl, p, T.C_Numbers, dx, _, _, rfl, hp, T.cl, T.nf, e_f, _, _, rfl, rfl, q⟩
theorem ok_far {f : Addr} {fd : FuncData} (F : Fun K "far_slack" "far_slack" s_far_slack f fd) (T : Txt K mg) : FnOk P w K mg base CX0 1 f fd ["numbers", "spread"] (spNum T.C_Numbers fun k f d m w1 w2 g s => .int (farI k f w2 g s)) := by
  refine F.ok sc_far_slack (fun vs H Q E h => ?_) (fun cdv A outer st H vs Q E hr h => ?_)
  · obtain ⟨_, _, _, _, _, _, _, _, _, rfl, _⟩ := h
    rfl
  · obtain ⟨p, k, f, d, m, w1, w2, g, s, rfl, ⟨dx, hp⟩, o, q⟩ := h
    obtain ⟨e_k, e_f, e_d, e_m, e_w1, e_w2, e_g⟩ := numF_at k f d m w1 w2 g
    refine ⟨_, (pss_one (ps_ret (pe_op op_sub (pe_op op_sub (pe_op op_sub (pe_op op_add (pe_fld (pv 0) rfl) (pe_fld (pv 0) rfl)) (pe_fld (pv 0) rfl)) (pv 1)) (pe_fld (pv 0) rfl)))), ?_⟩
    exact ⟨_, rfl, p, T.C_Numbers, dx, _, _, rfl, hp, T.cl, T.ng, e_g, _, rfl, p, T.C_Numbers, dx, _, _, rfl, hp, T.cl, T.nw2, e_w2, _, _, rfl, rfl, _, rfl, p, T.C_Numbers, dx, _, _, rfl, hp, T.cl, T.nk, e_k, _, _, rfl, rfl, _, rfl, _, _, rfl, rfl, _, rfl, p, T.C_Numbers, dx, _, _, rfl, hp, T.cl, T.nf, e_f, _, _, rfl, rfl, q⟩
theorem ok_mend {f : Addr} {fd : FuncData} (F : Fun K "mend_slack" "mend_slack" s_mend_slack f fd) (T : Txt K mg) (D_far_slack : Df P w K mg base 1 "far_slack" ["numbers", "spread"] (spNum T.C_Numbers fun k f d m w1 w2 g s => .int (farI k f w2 g s))) :
    FnOk P w K mg base CX0 2 f fd ["numbers", "spread"] (spNum T.C_Numbers fun k f d m w1 w2 g s => .int (farI k f w2 g s - m)) := by
  refine F.ok sc_mend_slack (fun vs H Q E h => ?_) (fun cdv A outer st H vs Q E hr h => ?_)
  · obtain ⟨_, _, _, _, _, _, _, _, _, rfl, _⟩ := h
    rfl
  · obtain ⟨p, k, f, d, m, w1, w2, g, s, rfl, ⟨dx, hp⟩, o, q⟩ := h
    obtain ⟨e_k, e_f, e_d, e_m, e_w1, e_w2, e_g⟩ := numF_at k f d m w1 w2 g
    refine ⟨_, (pss_one (ps_ret (pe_op op_sub (pe_call D_far_slack.ok (hr.mono (by first | decide | omega)) (by rfl) D_far_slack.m D_far_slack.kp D_far_slack.b .nil pass0 (pa_cons (pv 0) (pa_cons (pv 1) pa_nil))) (pe_fld (pv 0) rfl)))), ?_⟩
    exact ⟨_, rfl, _, rfl, p, k, f, d, m, w1, w2, g, s, rfl, ⟨dx, hp⟩, o, _, rfl, p, T.C_Numbers, dx, _, _, rfl, hp, T.cl, T.nm, e_m, _, _, rfl, rfl, q⟩
theorem ok_single {f : Addr} {fd : FuncData} (F : Fun K "is_single" "is_single" s_is_single f fd) (T : Txt K mg) (D_near_slack : Df P w K mg base 1 "near_slack" ["numbers", "spread"] (spNum T.C_Numbers fun k f d m w1 w2 g s => .int (nearI k f w1 s)))
    (D_far_slack : Df P w K mg base 1 "far_slack" ["numbers", "spread"] (spNum T.C_Numbers fun k f d m w1 w2 g s => .int (farI k f w2 g s))) :
    FnOk P w K mg base CX0 2 f fd ["numbers", "spread"] (spNum T.C_Numbers fun k f d m w1 w2 g s => .bl (singleB k f w1 w2 g s)) := by
  refine F.ok sc_is_single (fun vs H Q E h => ?_) (fun cdv A outer st H vs Q E hr h => ?_)
  · obtain ⟨_, _, _, _, _, _, _, _, _, rfl, _⟩ := h
    rfl
  · obtain ⟨p, k, f, d, m, w1, w2, g, s, rfl, hp, o, q⟩ := h
    refine ⟨_, (pss_one (ps_ret (pe_and (pe_cmpR op_gt (pe_call D_near_slack.ok (hr.mono (by first | decide | omega)) (by rfl) D_near_slack.m D_near_slack.kp D_near_slack.b .nil pass0 (pa_cons (pv 0) (pa_cons (pv 1) pa_nil))) pe_int (nomark _)) (pe_one (pe_or (pe_cmpR op_eq (pv 1) pe_int (nomark _)) (pe_one (pe_cmpR op_gt (pe_call D_far_slack.ok (hr.mono (by first | decide | omega)) (by rfl) D_far_slack.m D_far_slack.kp D_far_slack.b .nil pass0 (pa_cons (pv 0) (pa_cons (pv 1) pa_nil))) pe_int (nomark _)))))))), ?_⟩
    unfold singleB at q
    dsimp only at q
    refine ⟨_, rfl, _, rfl, p, k, f, d, m, w1, w2, g, s, rfl, hp, o, _, _, rfl, rfl, and_rd (fun h1 => ?_) (fun h1 => ?_)⟩
    · simp only [h1, Bool.true_and] at q
      refine ⟨_, rfl, rfl, _, rfl, eqz (fun z => ?_) (fun z => ?_)⟩
      · rw [decide_eq_true z] at q
        exact q
      · rw [show decide (s = 0) = false from decide_eq_false z, Bool.false_or] at q
        exact ⟨_, rfl, _, rfl, p, k, f, d, m, w1, w2, g, s, rfl, hp, o, _, _, rfl, rfl, q⟩
    · simp only [h1, Bool.false_and] at q
      exact q
theorem ok_lasting {f : Addr} {fd : FuncData} (F : Fun K "is_lasting" "is_lasting" s_is_lasting f fd) (T : Txt K mg) (D_mend_slack : Df P w K mg base 2 "mend_slack" ["numbers", "spread"] (spNum T.C_Numbers fun k f d m w1 w2 g s => .int (farI k f w2 g s - m))) :
    FnOk P w K mg base CX0 3 f fd ["numbers", "spread"] (spNum T.C_Numbers fun k f d m w1 w2 g s => .bl (lastB k f m w2 g s)) := by
  refine F.ok sc_is_lasting (fun vs H Q E h => ?_) (fun cdv A outer st H vs Q E hr h => ?_)
  · obtain ⟨_, _, _, _, _, _, _, _, _, rfl, _⟩ := h
    rfl
  · obtain ⟨p, k, f, d, m, w1, w2, g, s, rfl, hp, o, q⟩ := h
    refine ⟨_, (pss_cons (ps_if (pt_cmpR op_eq (pv 1) pe_int (nomark _))
  (pss_one (ps_ret (pe_cmpR op_ge (pe_fld (pv 0) rfl) (pe_op op_add (pe_fld (pv 0) rfl) (pe_fld (pv 0) rfl)) (nomark _))))
  pss_nil)
  (pss_one (ps_ret (pe_cmpR op_ge (pe_call D_mend_slack.ok (hr.mono (by first | decide | omega)) (by rfl) D_mend_slack.m D_mend_slack.kp D_mend_slack.b .nil pass0 (pa_cons (pv 0) (pa_cons (pv 1) pa_nil))) pe_int (nomark _))))), ?_⟩
    unfold lastB at q
    dsimp only at q
    refine ⟨_, rfl, rfl, _, rfl, eqz (fun z => ?_) (fun z => ?_)⟩
    · rw [if_pos z] at q
      obtain ⟨dx, hp⟩ := hp
      obtain ⟨e_k, e_f, e_d, e_m, e_w1, e_w2, e_g⟩ := numF_at k f d m w1 w2 g
      exact ⟨_, rfl, p, T.C_Numbers, dx, _, _, rfl, hp, T.cl, T.nw2, e_w2, _, rfl, p, T.C_Numbers, dx, _, _, rfl, hp, T.cl, T.nf, e_f, _, rfl, p, T.C_Numbers, dx, _, _, rfl, hp, T.cl, T.nm, e_m, _, _, rfl, rfl, _, _, rfl, rfl, q⟩
    · rw [if_neg z] at q
      exact ⟨_, rfl, _, rfl, p, k, f, d, m, w1, w2, g, s, rfl, hp, o, _, _, rfl, rfl, q⟩
theorem ok_safe {f : Addr} {fd : FuncData} (F : Fun K "is_safe" "is_safe" s_is_safe f fd) (T : Txt K mg) (D_is_single : Df P w K mg base 2 "is_single" ["numbers", "spread"] (spNum T.C_Numbers fun k f d m w1 w2 g s => .bl (singleB k f w1 w2 g s)))
    (D_is_lasting : Df P w K mg base 3 "is_lasting" ["numbers", "spread"] (spNum T.C_Numbers fun k f d m w1 w2 g s => .bl (lastB k f m w2 g s))) :
    FnOk P w K mg base CX0 4 f fd ["numbers", "spread"] (spNum T.C_Numbers fun k f d m w1 w2 g s => .bl (singleB k f w1 w2 g s && lastB k f m w2 g s)) := by
  refine F.ok sc_is_safe (fun vs H Q E h => ?_) (fun cdv A outer st H vs Q E hr h => ?_)
  · obtain ⟨_, _, _, _, _, _, _, _, _, rfl, _⟩ := h
    rfl
  · obtain ⟨p, k, f, d, m, w1, w2, g, s, rfl, hp, o, q⟩ := h
    refine ⟨_, (pss_one (ps_ret (pe_and (pe_call D_is_single.ok (hr.mono (by first | decide | omega)) (by rfl) D_is_single.m D_is_single.kp D_is_single.b .nil pass0 (pa_cons (pv 0) (pa_cons (pv 1) pa_nil))) (pe_one (pe_call D_is_lasting.ok (hr.mono (by first | decide | omega)) (by rfl) D_is_lasting.m D_is_lasting.kp D_is_lasting.b .nil pass0 (pa_cons (pv 0) (pa_cons (pv 1) pa_nil))))))), ?_⟩
    refine ⟨_, rfl, _, rfl, p, k, f, d, m, w1, w2, g, s, rfl, hp, o, and_rd (fun h1 => ?_) (fun h1 => ?_)⟩
    · simp only [h1, Bool.true_and] at q
      exact ⟨_, rfl, _, rfl, p, k, f, d, m, w1, w2, g, s, rfl, hp, o, q⟩
    · simp only [h1, Bool.false_and] at q
      exact q
def sp_times : Sp := fun vs H Q _ => ∃ a s : Int, vs = [.int a, .int s] ∧ 1 ≤ s ∧ s ≤ 1000 ∧ Q (.int (timesI a s)) H
theorem ok_times {f : Addr} {fd : FuncData} (F : Fun K "times_over" "times_over" s_times_over f fd) (T : Txt K mg) : FnOk P w K mg base CX0 1 f fd ["many", "spread"] sp_times := by
  refine F.ok sc_times_over (fun vs H Q E h => ?_) (fun cdv A outer st H vs Q E hr h => ?_)
  · obtain ⟨_, _, rfl, _⟩ := h
    rfl
  · obtain ⟨a, s, rfl, h1, h2, q⟩ := h
    refine ⟨_, (pss_one (ps_ret (pe_op op_fdivN (pe_op op_sub (pe_op op_add (pv 0) (pv 1)) pe_int) (pv 1)))), ?_⟩
    refine ⟨_, rfl, _, rfl, _, _, rfl, rfl, _, _, rfl, rfl, _, rfl, _, _, rfl, rfl, ⟨by omega, by omega⟩, ?_⟩
    show Q (.int ((a + s - 1).fdiv s)) H
    rw [Int.fdiv_eq_ediv_of_nonneg _ (by omega)]
    exact q
theorem ok_must {f : Addr} {fd : FuncData} (F : Fun K "must_leave" "must_leave" s_must_leave f fd) (T : Txt K mg) : FnOk P w K mg base CX0 1 f fd ["numbers"] (spNum1 T.C_Numbers fun k f d m w1 w2 g => .int (needI k f w1 w2)) := by
  refine F.ok sc_must_leave (fun vs H Q E h => ?_) (fun cdv A outer st H vs Q E hr h => ?_)
  · obtain ⟨_, _, _, _, _, _, _, _, rfl, _⟩ := h
    rfl
  · obtain ⟨p, k, f, d, m, w1, w2, g, rfl, ⟨dx, hp⟩, o, q⟩ := h
    obtain ⟨e_k, e_f, e_d, e_m, e_w1, e_w2, e_g⟩ := numF_at k f d m w1 w2 g
    refine ⟨_, (pss_one (ps_ret (pe_op op_sub (pe_op op_sub (pe_op op_add (pe_fld (pv 0) rfl) (pe_callB (call_max2 rfl) (by rfl) T.max (by decide +kernel) (pa_cons (pe_fld (pv 0) rfl) (pa_cons (pe_fld (pv 0) rfl) pa_nil)))) (pe_fld (pv 0) rfl)) (pe_fld (pv 0) rfl)))), ?_⟩
    exact ⟨_, rfl, p, T.C_Numbers, dx, _, _, rfl, hp, T.cl, T.nw1, e_w1, _, rfl, p, T.C_Numbers, dx, _, _, rfl, hp, T.cl, T.nw1, e_w1, _, rfl, p, T.C_Numbers, dx, _, _, rfl, hp, T.cl, T.nw2, e_w2, _, _, rfl, _, _, rfl, rfl, _, rfl, p, T.C_Numbers, dx, _, _, rfl, hp, T.cl, T.nk, e_k, _, _, rfl, rfl, _, rfl, p, T.C_Numbers, dx, _, _, rfl, hp, T.cl, T.nf, e_f, _, _, rfl, rfl, q⟩
theorem need_bd {k f d m w1 w2 g s : Int} (o : Ok k f d m w1 w2 g s) : -24 ≤ needI k f w1 w2 ∧ needI k f w1 w2 ≤ 12 := by
  have := o.a2; have := o.b2; have := o.k1; have := o.k2; have := o.f1; have := o.f2; have := o.a1; have := o.b1
  unfold needI mx
  split <;> omega
theorem times_bd {a s : Int} (h : -24 ≤ a ∧ a ≤ 24) (hs : 1 ≤ s) (hs' : s ≤ 12) : -30 ≤ timesI a s ∧ timesI a s ≤ 30 := by
  unfold timesI
  rcases s_cases hs hs' with rfl | rfl | rfl | rfl | rfl | rfl | rfl | rfl | rfl | rfl | rfl | rfl <;> omega
theorem ok_twice {f : Addr} {fd : FuncData} (F : Fun K "words_to_twice" "words_to_twice" s_words_to_twice f fd) (T : Txt K mg) (D_near_slack : Df P w K mg base 1 "near_slack" ["numbers", "spread"] (spNum T.C_Numbers fun k f d m w1 w2 g s => .int (nearI k f w1 s)))
    (D_is_single : Df P w K mg base 2 "is_single" ["numbers", "spread"] (spNum T.C_Numbers fun k f d m w1 w2 g s => .bl (singleB k f w1 w2 g s))) (D_times_over : Df P w K mg base 1 "times_over" ["many", "spread"] sp_times)
    (D_must_leave : Df P w K mg base 1 "must_leave" ["numbers"] (spNum1 T.C_Numbers fun k f d m w1 w2 g => .int (needI k f w1 w2))) :
    FnOk P w K mg base CX0 3 f fd ["numbers", "spread"] (spNum T.C_Numbers fun k f d m w1 w2 g s => optV (twiceO k f d w1 w2 g s)) := by
  refine F.ok sc_words_to_twice (fun vs H Q E h => ?_) (fun cdv A outer st H vs Q E hr h => ?_)
  · obtain ⟨_, _, _, _, _, _, _, _, _, rfl, _⟩ := h
    rfl
  · obtain ⟨p, k, f, d, m, w1, w2, g, s, rfl, ⟨dx, hp⟩, o, q⟩ := h
    obtain ⟨e_k, e_f, e_d, e_m, e_w1, e_w2, e_g⟩ := numF_at k f d m w1 w2 g
    refine ⟨_, (pss_cons (ps_if (pt_cmpR op_le (pe_op op_mul pe_int (pe_callB (call_max2 rfl) (by rfl) T.max (by decide +kernel) (pa_cons (pe_fld (pv 0) rfl) (pa_cons (pe_fld (pv 0) rfl) pa_nil)))) (pe_op op_add (pe_fld (pv 0) rfl) (pe_fld (pv 0) rfl)) (nomark _))
  (pss_one (ps_ret pe_int))
  pss_nil)
  (pss_cons (ps_if (pt_cmpR op_le (pe_call D_near_slack.ok (hr.mono (by first | decide | omega)) (by rfl) D_near_slack.m D_near_slack.kp D_near_slack.b .nil pass0 (pa_cons (pv 0) (pa_cons (pv 1) pa_nil))) pe_int (nomark _))
  (pss_one (ps_ret pe_int))
  pss_nil)
  (pss_cons (ps_if (pt_val (pe_call D_is_single.ok (hr.mono (by first | decide | omega)) (by rfl) D_is_single.m D_is_single.kp D_is_single.b .nil pass0 (pa_cons (pv 0) (pa_cons (pv 1) pa_nil))))
  (pss_one (ps_ret pe_non))
  pss_nil)
  (pss_one (ps_ret (pe_op op_add (pe_op op_mul (pe_op op_sub (pe_call D_times_over.ok (hr.mono (by first | decide | omega)) (by rfl) D_times_over.m D_times_over.kp D_times_over.b .nil pass0 (pa_cons (pe_call D_must_leave.ok (hr.mono (by first | decide | omega)) (by rfl) D_must_leave.m D_must_leave.kp D_must_leave.b .nil pass0 (pa_cons (pv 0) pa_nil)) (pa_cons (pv 1) pa_nil))) pe_int) (pe_fld (pv 0) rfl)) pe_int)))))), ?_⟩
    unfold twiceO at q
    dsimp only at q
    refine ⟨_, rfl, p, T.C_Numbers, dx, _, _, rfl, hp, T.cl, T.nw1, e_w1, _, rfl, p, T.C_Numbers, dx, _, _, rfl, hp, T.cl, T.nw2, e_w2, _, _, rfl, _, _, rfl, rfl, .inl ⟨by decide, by decide⟩, _, rfl, p, T.C_Numbers, dx, _, _, rfl, hp, T.cl, T.nk, e_k, _, rfl, p, T.C_Numbers, dx, _, _, rfl, hp, T.cl, T.nf, e_f, _, _, rfl, rfl, _, _, rfl, rfl, _, rfl, ite_dec (fun z => ?_) (fun z => ?_)⟩
    · rw [if_pos (show 2 * mx w1 w2 ≤ k + f from z)] at q
      exact q
    rw [if_neg (show ¬ 2 * mx w1 w2 ≤ k + f from z)] at q
    refine ⟨_, rfl, _, rfl, p, k, f, d, m, w1, w2, g, s, rfl, ⟨dx, hp⟩, o, _, _, rfl, rfl, _, rfl, ite_dec (fun z1 => ?_) (fun z1 => ?_)⟩
    · rw [if_pos z1] at q
      exact q
    rw [if_neg z1] at q
    refine ⟨_, rfl, _, rfl, p, k, f, d, m, w1, w2, g, s, rfl, ⟨dx, hp⟩, o, _, rfl, if_b (fun h1 => ?_) (fun h1 => ?_)⟩
    · rw [if_pos h1] at q
      exact q
    rw [h1, if_neg Bool.false_ne_true] at q
    have hs : 1 ≤ s := by
      have := o.s1
      unfold singleB at h1
      rw [decide_eq_true (by omega), Bool.true_and] at h1
      by_cases hz : s = 0
      · rw [decide_eq_true hz] at h1
        cases h1
      · omega
    have o0 : Ok k f d m w1 w2 g 0 := ⟨o.k1, o.k2, o.f1, o.f2, o.d1, o.d2, o.m1, o.m2, o.a1, o.a2, o.b1, o.b2, o.g1, o.g2, by decide, by decide⟩
    have hb := times_bd (a := needI k f w1 w2) (s := s) (by have := need_bd o; omega) hs o.s2
    refine ⟨_, rfl, p, k, f, d, m, w1, w2, g, rfl, ⟨dx, hp⟩, o0, _, rfl, _, s, rfl, hs, by have := o.s2; omega, ?_⟩
    exact ⟨_, _, rfl, rfl, _, rfl, p, T.C_Numbers, dx, _, _, rfl, hp, T.cl, T.nd, e_d, _, _, rfl, rfl, .inl ⟨by omega, by omega⟩, _, _, rfl, rfl, q⟩
theorem ok_beyond {f : Addr} {fd : FuncData} (F : Fun K "keepers_beyond" "keepers_beyond" s_keepers_beyond f fd) (T : Txt K mg) : FnOk P w K mg base CX0 1 f fd ["numbers"] (spNum1 T.C_Numbers fun k f d m w1 w2 g => .int (beyondI f m w2)) := by
  refine F.ok sc_keepers_beyond (fun vs H Q E h => ?_) (fun cdv A outer st H vs Q E hr h => ?_)
  · obtain ⟨_, _, _, _, _, _, _, _, rfl, _⟩ := h
    rfl
  · obtain ⟨p, k, f, d, m, w1, w2, g, rfl, ⟨dx, hp⟩, o, q⟩ := h
    obtain ⟨e_k, e_f, e_d, e_m, e_w1, e_w2, e_g⟩ := numF_at k f d m w1 w2 g
    refine ⟨_, (pss_one (ps_ret (pe_op op_add (pe_op op_sub (pe_op op_sub (pe_fld (pv 0) rfl) (pe_fld (pv 0) rfl)) (pe_fld (pv 0) rfl)) pe_int))), ?_⟩
    exact ⟨_, rfl, p, T.C_Numbers, dx, _, _, rfl, hp, T.cl, T.nw2, e_w2, _, rfl, p, T.C_Numbers, dx, _, _, rfl, hp, T.cl, T.nf, e_f, _, _, rfl, rfl, _, rfl, p, T.C_Numbers, dx, _, _, rfl, hp, T.cl, T.nm, e_m, _, _, rfl, rfl, _, _, rfl, rfl, q⟩
theorem ok_gone {f : Addr} {fd : FuncData} (F : Fun K "words_to_gone" "words_to_gone" s_words_to_gone f fd) (T : Txt K mg) (D_keepers_beyond : Df P w K mg base 1 "keepers_beyond" ["numbers"] (spNum1 T.C_Numbers fun k f d m w1 w2 g => .int (beyondI f m w2)))
    (D_is_lasting : Df P w K mg base 3 "is_lasting" ["numbers", "spread"] (spNum T.C_Numbers fun k f d m w1 w2 g s => .bl (lastB k f m w2 g s))) (D_times_over : Df P w K mg base 1 "times_over" ["many", "spread"] sp_times) :
    FnOk P w K mg base CX0 4 f fd ["numbers", "spread"] (spNum T.C_Numbers fun k f d m w1 w2 g s => optV (goneO k f d m w2 g s)) := by
  refine F.ok sc_words_to_gone (fun vs H Q E h => ?_) (fun cdv A outer st H vs Q E hr h => ?_)
  · obtain ⟨_, _, _, _, _, _, _, _, _, rfl, _⟩ := h
    rfl
  · obtain ⟨p, k, f, d, m, w1, w2, g, s, rfl, ⟨dx, hp⟩, o, q⟩ := h
    obtain ⟨e_k, e_f, e_d, e_m, e_w1, e_w2, e_g⟩ := numF_at k f d m w1 w2 g
    refine ⟨_, (pss_cons (ps_set (i := 2) sc_words_to_gone.nd rfl (by first | exact Or.inl rfl | exact Or.inr rfl) (pe_call D_keepers_beyond.ok (hr.mono (by first | decide | omega)) (by rfl) D_keepers_beyond.m D_keepers_beyond.kp D_keepers_beyond.b .nil pass0 (pa_cons (pv 0) pa_nil)))
  (pss_cons (ps_if (pt_cmpR op_le (pv 2) pe_int (nomark _))
  (pss_one (ps_ret pe_int))
  pss_nil)
  (pss_cons (ps_if (pt_cmpR op_le (pv 2) (pv 1) (nomark _))
  (pss_one (ps_ret pe_int))
  pss_nil)
  (pss_cons (ps_if (pt_val (pe_call D_is_lasting.ok (hr.mono (by first | decide | omega)) (by rfl) D_is_lasting.m D_is_lasting.kp D_is_lasting.b .nil pass0 (pa_cons (pv 0) (pa_cons (pv 1) pa_nil))))
  (pss_one (ps_ret pe_non))
  pss_nil)
  (pss_one (ps_ret (pe_op op_add (pe_op op_mul (pe_op op_sub (pe_call D_times_over.ok (hr.mono (by first | decide | omega)) (by rfl) D_times_over.m D_times_over.kp D_times_over.b .nil pass0 (pa_cons (pv 2) (pa_cons (pv 1) pa_nil))) pe_int) (pe_fld (pv 0) rfl)) pe_int))))))), ?_⟩
    unfold goneO at q
    dsimp only at q
    have o0 : Ok k f d m w1 w2 g 0 := ⟨o.k1, o.k2, o.f1, o.f2, o.d1, o.d2, o.m1, o.m2, o.a1, o.a2, o.b1, o.b2, o.g1, o.g2, by decide, by decide⟩
    refine ⟨_, rfl, p, k, f, d, m, w1, w2, g, rfl, ⟨dx, hp⟩, o0, _, rfl, _, _, rfl, rfl, _, rfl, ite_dec (fun z => ?_) (fun z => ?_)⟩
    · rw [if_pos z] at q
      exact q
    rw [if_neg z] at q
    refine ⟨_, rfl, _, rfl, _, _, rfl, rfl, _, rfl, ite_dec (fun z1 => ?_) (fun z1 => ?_)⟩
    · rw [if_pos z1] at q
      exact q
    rw [if_neg z1] at q
    refine ⟨_, rfl, _, rfl, p, k, f, d, m, w1, w2, g, s, rfl, ⟨dx, hp⟩, o, _, rfl, if_b (fun h1 => ?_) (fun h1 => ?_)⟩
    · rw [if_pos h1] at q
      exact q
    rw [h1, if_neg Bool.false_ne_true] at q
    have z' : 1 ≤ w2 - f - m + 1 := by
      have : ¬ beyondI f m w2 ≤ 0 := z
      unfold beyondI at this
      omega
    have hs : 1 ≤ s := s_pos o.s1 h1 (by omega)
    have hb := times_bd (a := beyondI f m w2) (s := s) (by unfold beyondI; have := o.b2; have := o.k2; have := o.f1; have := o.m1; omega) hs o.s2
    refine ⟨_, rfl, _, rfl, _, s, rfl, hs, by have := o.s2; omega, ?_⟩
    exact ⟨_, _, rfl, rfl, _, rfl, p, T.C_Numbers, dx, _, _, rfl, hp, T.cl, T.nd, e_d, _, _, rfl, rfl, .inl ⟨by omega, by omega⟩, _, _, rfl, rfl, q⟩
/-- what is left behind so many words -/
def sp_left_behind (C : Addr) : Sp := fun vs H Q _ => ∃ (p : Addr) (k f d m w1 w2 g s words : Int), vs = [.ref p, .int s, .int words] ∧ NumAt C H p k f d m w1 w2 g ∧ Ok k f d m w1 w2 g s ∧ 0 ≤ words ∧ words ≤ 100000 ∧ Q (.int (leftI k f d m w2 g s words)) H
theorem ok_left_behind {f : Addr} {fd : FuncData} (F : Fun K "left_behind" "left_behind" s_left_behind f fd) (T : Txt K mg)
    (D_is_lasting : Df P w K mg base 3 "is_lasting" ["numbers", "spread"] (spNum T.C_Numbers fun k f d m w1 w2 g s => .bl (lastB k f m w2 g s))) (D_times_over : Df P w K mg base 1 "times_over" ["many", "spread"] sp_times) :
    FnOk P w K mg base CX0 4 f fd ["numbers", "spread", "words"] (sp_left_behind T.C_Numbers) := by
  refine F.ok sc_left_behind (fun vs H Q E h => ?_) (fun cdv A outer st H vs Q E hr h => ?_)
  · obtain ⟨_, _, _, _, _, _, _, _, _, _, rfl, _⟩ := h
    rfl
  · obtain ⟨p, k, f, d, m, w1, w2, g, s, words, rfl, ⟨dx, hp⟩, o, hw, hw2, q⟩ := h
    obtain ⟨e_k, e_f, e_d, e_m, e_w1, e_w2, e_g⟩ := numF_at k f d m w1 w2 g
    refine ⟨_, (pss_cons (ps_if (pt_cmpR op_eq (pv 2) pe_int (nomark _))
  (pss_one (ps_set (i := 3) sc_left_behind.nd rfl (by first | exact Or.inl rfl | exact Or.inr rfl) pe_int))
  (pss_one (ps_if (PW.pt (pw_or (pt_cmpR op_le (pv 2) (pe_fld (pv 0) rfl) (nomark _)) (pw_or1 (pt_val (pe_call D_is_lasting.ok (hr.mono (by first | decide | omega)) (by rfl) D_is_lasting.m D_is_lasting.kp D_is_lasting.b .nil pass0 (pa_cons (pv 0) (pa_cons (pv 1) pa_nil)))))))
  (pss_one (ps_set (i := 3) sc_left_behind.nd rfl (by first | exact Or.inl rfl | exact Or.inr rfl) pe_int))
  (pss_one (ps_set (i := 3) sc_left_behind.nd rfl (by first | exact Or.inl rfl | exact Or.inr rfl) (pe_call D_times_over.ok (hr.mono (by first | decide | omega)) (by rfl) D_times_over.m D_times_over.kp D_times_over.b .nil pass0 (pa_cons (pv 2) (pa_cons (pe_fld (pv 0) rfl) pa_nil))))))))
  (pss_one (ps_ret (pe_callB (call_max2 rfl) (by rfl) T.max (by decide +kernel) (pa_cons pe_int (pa_cons (pe_op op_sub (pe_op op_sub (pe_fld (pv 0) rfl) (pe_fld (pv 0) rfl)) (pe_op op_mul (pv 1) (pv 3))) pa_nil)))))), ?_⟩
    -- what follows once the changes are told
    have fin : ∀ c : Int, (if words = 0 then 0 else if words ≤ d ∨ lastB k f m w2 g s = true then 1 else timesI words d) = c → Q (.int (mx 0 (w2 - f - s * c))) H := fun c e => by
      unfold leftI at q
      rw [e] at q
      exact q
    have hs1 := o.s1
    have hs2 := o.s2
    refine ⟨_, rfl, rfl, _, rfl, eqz (fun z => ?_) (fun z => ?_)⟩
    · exact ⟨_, rfl, p, T.C_Numbers, dx, _, _, rfl, hp, T.cl, T.nw2, e_w2, _, rfl, p, T.C_Numbers, dx, _, _, rfl, hp, T.cl, T.nf, e_f, _, _, rfl, rfl, _, rfl, _, rfl, _, _, rfl, rfl, .inl ⟨by omega, by omega⟩, _, _, rfl, rfl, _, _, rfl, fin 0 (if_pos z)⟩
    · refine ⟨_, rfl, _, rfl, p, T.C_Numbers, dx, _, _, rfl, hp, T.cl, T.nd, e_d, _, _, rfl, rfl, _, rfl, ite_dec (fun z1 => ?_) (fun z1 => ?_)⟩
      · exact ⟨_, rfl, p, T.C_Numbers, dx, _, _, rfl, hp, T.cl, T.nw2, e_w2, _, rfl, p, T.C_Numbers, dx, _, _, rfl, hp, T.cl, T.nf, e_f, _, _, rfl, rfl, _, rfl, _, rfl, _, _, rfl, rfl, .inl ⟨by omega, by omega⟩, _, _, rfl, rfl, _, _, rfl, fin 1 (by rw [if_neg z, if_pos (.inl z1)])⟩
      · refine ⟨_, rfl, _, rfl, p, k, f, d, m, w1, w2, g, s, rfl, ⟨dx, hp⟩, o, _, rfl, if_b (fun h1 => ?_) (fun h1 => ?_)⟩
        · exact ⟨_, rfl, p, T.C_Numbers, dx, _, _, rfl, hp, T.cl, T.nw2, e_w2, _, rfl, p, T.C_Numbers, dx, _, _, rfl, hp, T.cl, T.nf, e_f, _, _, rfl, rfl, _, rfl, _, rfl, _, _, rfl, rfl, .inl ⟨by omega, by omega⟩, _, _, rfl, rfl, _, _, rfl, fin 1 (by rw [if_neg z, if_pos (.inr h1)])⟩
        · refine ⟨_, rfl, _, rfl, p, T.C_Numbers, dx, _, _, rfl, hp, T.cl, T.nd, e_d, words, d, rfl, o.d1, by have := o.d2; omega, ?_⟩
          exact ⟨_, rfl, p, T.C_Numbers, dx, _, _, rfl, hp, T.cl, T.nw2, e_w2, _, rfl, p, T.C_Numbers, dx, _, _, rfl, hp, T.cl, T.nf, e_f, _, _, rfl, rfl, _, rfl, _, rfl, _, _, rfl, rfl, .inl ⟨by omega, by omega⟩, _, _, rfl, rfl, _, _, rfl, fin _ (by rw [if_neg z, if_neg (by rw [h1]; simp; omega)])⟩
/-- whether so many words are too few -/
def ltO (words : Int) : Option Int → Bool
  | none => true
  | some x => decide (words < x)
/-- whether both words are beyond -/
def forB (t u : Option Int) (words : Int) : Bool := ltO words t && ltO words u
def sp_safe_for (C : Addr) : Sp := fun vs H Q _ => ∃ (p : Addr) (k f d m w1 w2 g s words : Int), vs = [.ref p, .int s, .int words] ∧ NumAt C H p k f d m w1 w2 g ∧ Ok k f d m w1 w2 g s ∧ ∀ H', Same H H' → Q (.bl (forB (twiceO k f d w1 w2 g s) (goneO k f d m w2 g s) words)) H'
theorem ok_safe_for {f : Addr} {fd : FuncData} (F : Fun K "is_safe_for" "is_safe_for" s_is_safe_for f fd) (T : Txt K mg) (D_words_to_twice : Df P w K mg base 3 "words_to_twice" ["numbers", "spread"] (spNum T.C_Numbers fun k f d m w1 w2 g s => optV (twiceO k f d w1 w2 g s)))
    (D_words_to_gone : Df P w K mg base 4 "words_to_gone" ["numbers", "spread"] (spNum T.C_Numbers fun k f d m w1 w2 g s => optV (goneO k f d m w2 g s))) :
    FnOk P w K mg base CX0 5 f fd ["numbers", "spread", "words"] (sp_safe_for T.C_Numbers) := by
  refine F.ok sc_is_safe_for (fun vs H Q E h => ?_) (fun cdv A outer st H vs Q E hr h => ?_)
  · obtain ⟨_, _, _, _, _, _, _, _, _, _, rfl, _⟩ := h
    rfl
  · obtain ⟨p, k, f, d, m, w1, w2, g, s, words, rfl, hp, o, q⟩ := h
    refine ⟨_, (pss_cons (ps_for PassesOwn.never rfl (pi_tup (pe_tup (pa_cons (pe_call D_words_to_twice.ok (hr.mono (by first | decide | omega)) (by rfl) D_words_to_twice.m D_words_to_twice.kp D_words_to_twice.b .nil pass0 (pa_cons (pv 0) (pa_cons (pv 1) pa_nil))) (pa_cons (pe_call D_words_to_gone.ok (hr.mono (by first | decide | omega)) (by rfl) D_words_to_gone.m D_words_to_gone.kp D_words_to_gone.b .nil pass0 (pa_cons (pv 0) (pa_cons (pv 1) pa_nil))) pa_nil)))) (pg_name (i := 3) sc_is_safe_for.nd rfl (by first | exact Or.inl rfl | exact Or.inr rfl))
  (pss_one (ps_if (PW.pt (pw_and (pt_cmpR op_notN (pv 3) pe_non (nomark _)) (pw_and1 (pt_cmpR op_le (pv 3) (pv 2) (nomark _)))))
  (pss_one (ps_ret pe_bl))
  pss_nil)))
  (pss_one (ps_ret pe_bl))), ?_⟩
    refine ⟨_, rfl, _, rfl, p, k, f, d, m, w1, w2, g, s, rfl, hp, o, _, rfl, _, rfl, p, k, f, d, m, w1, w2, g, s, rfl, hp, o, (by show 2 ≤ sizeLine; decide), fun t ht => ?_⟩
    have sm := same_new (o := .tup [optV (twiceO k f d w1 w2 g s), optV (goneO k f d m w2 g s)]) ht
    have turn : ∀ (u : Option Int), (∃ x, optV u = .int x ∧ u = some x) ∨ (optV u = .non ∧ u = none) := fun u => by
      cases u with
      | none => exact .inr ⟨rfl, rfl⟩
      | some x => exact .inl ⟨x, rfl, rfl⟩
    have q' := q _ sm
    unfold forB at q'
    refine ⟨t, rfl, ⟨_, SqT.of upd_same⟩, for_tup (xs := [optV (twiceO k f d w1 w2 g s), optV (goneO k f d m w2 g s)]) (fun i σ H' => (∃ x, σ = [some (.ref p), some (.int s), some (.int words), x]) ∧ H' = upd H t (.tup [optV (twiceO k f d w1 w2 g s), optV (goneO k f d m w2 g s)]) ∧
        (0 < i → ltO words (twiceO k f d w1 w2 g s) = true) ∧ (1 < i → ltO words (goneO k f d m w2 g s) = true))
      ⟨⟨none, rfl⟩, rfl, by omega, by omega⟩ (fun i σ H' _ h => by rw [h.2.1]; exact SqT.of upd_same) ?_ ?_⟩
    · rintro i y σ H' hy ⟨⟨x, rfl⟩, rfl, h1, h2⟩
      match i, hy with
      | 0, hy =>
        obtain rfl : optV (twiceO k f d w1 w2 g s) = y := Option.some.inj hy
        cases ht : twiceO k f d w1 w2 g s with
        | none =>
          refine ⟨_, rfl, rfl, _, rfl, iteF ⟨⟨_, rfl⟩, rfl, fun _ => rfl, by omega⟩⟩
        | some z =>
          refine ⟨_, rfl, rfl, _, rfl, iteT ⟨_, rfl, _, rfl, _, _, rfl, rfl, _, rfl, ite_dec (fun hz => ?_) (fun hz => ?_)⟩⟩
          · rw [ht, show ltO words (some z) = false from decide_eq_false (by omega), Bool.false_and] at q'
            exact q'
          · exact ⟨⟨_, rfl⟩, rfl, fun _ => decide_eq_true (by omega), by omega⟩
      | 1, hy =>
        obtain rfl : optV (goneO k f d m w2 g s) = y := Option.some.inj hy
        have h1' := h1 (by omega)
        cases ht : goneO k f d m w2 g s with
        | none =>
          refine ⟨_, rfl, rfl, _, rfl, iteF ⟨⟨_, rfl⟩, rfl, fun _ => h1', fun _ => rfl⟩⟩
        | some z =>
          refine ⟨_, rfl, rfl, _, rfl, iteT ⟨_, rfl, _, rfl, _, _, rfl, rfl, _, rfl, ite_dec (fun hz => ?_) (fun hz => ?_)⟩⟩
          · rw [ht, show ltO words (some z) = false from decide_eq_false (by omega), Bool.and_false] at q'
            exact q'
          · exact ⟨⟨_, rfl⟩, rfl, fun _ => h1', fun _ => decide_eq_true (by omega)⟩
    · rintro σ H' ⟨⟨x, rfl⟩, rfl, h1, h2⟩
      rw [h1 (by show 0 < 2; omega), h2 (by show 1 < 2; omega), Bool.true_and] at q'
      exact q'
end
end K26

namespace K26
open PySem PySem.Spec PyProof.Rows L2 Hl
def mn (a b : Int) : Int := if b < a then b else a
def liarsM (k f m w1 w2 g s : Int) : Int := mn (nearI k f w1 s + f - 1) (if s = 0 then w2 - m else farI k f w2 g s - m + f)
def liarsO (k f m w1 w2 g s : Int) : Option Int := if liarsM k f m w1 w2 g s ≥ 0 then some (mn (liarsM k f m w1 w2 g s) k) else none
def safeB (k f m w1 w2 g s : Int) : Bool := singleB k f w1 w2 g s && lastB k f m w2 g s
def spreadM (k f m w1 w2 g : Int) : Int := mn (nearI k f w1 0 - 1) (farI k f w2 g 0 - m)
def spreadO (k f m w1 w2 g : Int) : Option Int := if safeB k f m w1 w2 g 0 = true then some (mx 0 (mn (spreadM k f m w1 w2 g) k)) else none
def piecesM (k f w2 g s : Int) : Int := if s = 0 then w2 - f else farI k f w2 g s
def piecesO (k f w1 w2 g s : Int) : Option Int := if singleB k f w1 w2 g s = true then (if piecesM k f w2 g s > 0 then some (mn (mn (piecesM k f w2 g s) k) 6) else none) else none
/-- three whole numbers -/
abbrev Tri := Int × Int × Int
def triD (t : Tri) : PyData := .tuple [.int t.1, .int t.2.1, .int t.2.2]
/-- from lo to hi, hi left out -/
def upI (lo hi : Int) : List Int := (List.range (hi - lo).toNat).map fun i => lo + (i : Nat)
def firstI (k f s : Int) : Int := (k + s + f) / 2 + 1
def leastL (k f m s most : Int) : List Tri :=
  if firstI k f s > most then [] else if s = 0 then (if f + m ≤ most then [(firstI k f s, f + m, 1)] else []) else (upI (k + s + f + m - most) (most + 1)).map fun y => (firstI k f s, y, k + s + f + m - y)
section
variable {P : Program} {w : World} {K : PySem.W.Frag} {mg : Str → Option Value} {base : Heap}
theorem ok_liars {f : Addr} {fd : FuncData} (F : Fun K "liars_borne" "liars_borne" s_liars_borne f fd) (T : Txt K mg) (D_near_slack : Df P w K mg base 1 "near_slack" ["numbers", "spread"] (spNum T.C_Numbers fun k f d m w1 w2 g s => .int (nearI k f w1 s)))
    (D_mend_slack : Df P w K mg base 2 "mend_slack" ["numbers", "spread"] (spNum T.C_Numbers fun k f d m w1 w2 g s => .int (farI k f w2 g s - m))) :
    FnOk P w K mg base CX0 3 f fd ["numbers", "spread"] (spNum T.C_Numbers fun k f d m w1 w2 g s => optV (liarsO k f m w1 w2 g s)) := by
  refine F.ok sc_liars_borne (fun vs H Q E h => ?_) (fun cdv A outer st H vs Q E hr h => ?_)
  · obtain ⟨_, _, _, _, _, _, _, _, _, rfl, _⟩ := h
    rfl
  · obtain ⟨p, k, f, d, m, w1, w2, g, s, rfl, hp, o, q⟩ := h
    obtain ⟨e_k, e_f, e_d, e_m, e_w1, e_w2, e_g⟩ := numF_at k f d m w1 w2 g
    refine ⟨_, (pss_cons (ps_set (i := 2) sc_liars_borne.nd rfl (by first | exact Or.inl rfl | exact Or.inr rfl) (pe_op op_sub (pe_op op_add (pe_call D_near_slack.ok (hr.mono (by first | decide | omega)) (by rfl) D_near_slack.m D_near_slack.kp D_near_slack.b .nil pass0 (pa_cons (pv 0) (pa_cons (pv 1) pa_nil))) (pe_fld (pv 0) rfl)) pe_int))
  (pss_cons (ps_if (pt_cmpR op_eq (pv 1) pe_int (nomark _))
  (pss_one (ps_set (i := 2) sc_liars_borne.nd rfl (by first | exact Or.inl rfl | exact Or.inr rfl) (pe_callB (call_min2 rfl) (by rfl) T.min (by decide +kernel) (pa_cons (pv 2) (pa_cons (pe_op op_sub (pe_fld (pv 0) rfl) (pe_fld (pv 0) rfl)) pa_nil)))))
  (pss_one (ps_set (i := 2) sc_liars_borne.nd rfl (by first | exact Or.inl rfl | exact Or.inr rfl) (pe_callB (call_min2 rfl) (by rfl) T.min (by decide +kernel) (pa_cons (pv 2) (pa_cons (pe_op op_add (pe_call D_mend_slack.ok (hr.mono (by first | decide | omega)) (by rfl) D_mend_slack.m D_mend_slack.kp D_mend_slack.b .nil pass0 (pa_cons (pv 0) (pa_cons (pv 1) pa_nil))) (pe_fld (pv 0) rfl)) pa_nil))))))
  (pss_one (ps_ret (pe_ifExp (pt_cmpR op_ge (pv 2) pe_int (nomark _)) (pe_callB (call_min2 rfl) (by rfl) T.min (by decide +kernel) (pa_cons (pv 2) (pa_cons (pe_fld (pv 0) rfl) pa_nil))) pe_non))))), ?_⟩
    have fin : ∀ l, liarsM k f m w1 w2 g s = l → Q (optV (if l ≥ 0 then some (mn l k) else none)) H := fun l e => by
      have : Q (optV (liarsO k f m w1 w2 g s)) H := q
      unfold liarsO at this
      rw [e] at this
      exact this
    refine ⟨_, rfl, _, rfl, p, k, f, d, m, w1, w2, g, s, rfl, hp, o, ?_⟩
    obtain ⟨dx, hp⟩ := hp
    refine ⟨_, rfl, p, T.C_Numbers, dx, _, _, rfl, hp, T.cl, T.nf, e_f, _, _, rfl, rfl, _, _, rfl, rfl, _, rfl, rfl, _, rfl, eqz (fun z => ?_) (fun z => ?_)⟩
    · have h := fin (mn (nearI k f w1 s + f - 1) (w2 - m)) (by unfold liarsM; rw [if_pos z])
      refine ⟨_, rfl, _, rfl, p, T.C_Numbers, dx, _, _, rfl, hp, T.cl, T.nw2, e_w2, _, rfl, p, T.C_Numbers, dx, _, _, rfl, hp, T.cl, T.nm, e_m, _, _, rfl, rfl, _, _, rfl, _, rfl, _, _, rfl, rfl, _, rfl, ite_dec (fun z1 => ?_) (fun z1 => ?_)⟩
      · rw [if_pos (show mn (nearI k f w1 s + f - 1) (w2 - m) ≥ 0 from z1)] at h
        exact ⟨_, rfl, _, rfl, p, T.C_Numbers, dx, _, _, rfl, hp, T.cl, T.nk, e_k, _, _, rfl, h⟩
      · rw [if_neg (show ¬ mn (nearI k f w1 s + f - 1) (w2 - m) ≥ 0 from z1)] at h
        exact h
    · have h := fin (mn (nearI k f w1 s + f - 1) (farI k f w2 g s - m + f)) (by unfold liarsM; rw [if_neg z])
      refine ⟨_, rfl, _, rfl, _, rfl, p, k, f, d, m, w1, w2, g, s, rfl, ⟨dx, hp⟩, o, _, rfl, p, T.C_Numbers, dx, _, _, rfl, hp, T.cl, T.nf, e_f, _, _, rfl, rfl, _, _, rfl, _, rfl, _, _, rfl, rfl, _, rfl, ite_dec (fun z1 => ?_) (fun z1 => ?_)⟩
      · rw [if_pos (show mn (nearI k f w1 s + f - 1) (farI k f w2 g s - m + f) ≥ 0 from z1)] at h
        exact ⟨_, rfl, _, rfl, p, T.C_Numbers, dx, _, _, rfl, hp, T.cl, T.nk, e_k, _, _, rfl, h⟩
      · rw [if_neg (show ¬ mn (nearI k f w1 s + f - 1) (farI k f w2 g s - m + f) ≥ 0 from z1)] at h
        exact h
theorem Ok.at0 {k f d m w1 w2 g s : Int} (o : Ok k f d m w1 w2 g s) : Ok k f d m w1 w2 g 0 := ⟨o.k1, o.k2, o.f1, o.f2, o.d1, o.d2, o.m1, o.m2, o.a1, o.a2, o.b1, o.b2, o.g1, o.g2, by decide, by decide⟩
theorem ok_spread {f : Addr} {fd : FuncData} (F : Fun K "spread_borne" "spread_borne" s_spread_borne f fd) (T : Txt K mg) (D_near_slack : Df P w K mg base 1 "near_slack" ["numbers", "spread"] (spNum T.C_Numbers fun k f d m w1 w2 g s => .int (nearI k f w1 s)))
    (D_mend_slack : Df P w K mg base 2 "mend_slack" ["numbers", "spread"] (spNum T.C_Numbers fun k f d m w1 w2 g s => .int (farI k f w2 g s - m)))
    (D_is_safe : Df P w K mg base 4 "is_safe" ["numbers", "spread"] (spNum T.C_Numbers fun k f d m w1 w2 g s => .bl (singleB k f w1 w2 g s && lastB k f m w2 g s))) :
    FnOk P w K mg base CX0 5 f fd ["numbers"] (spNum1 T.C_Numbers fun k f d m w1 w2 g => optV (spreadO k f m w1 w2 g)) := by
  refine F.ok sc_spread_borne (fun vs H Q E h => ?_) (fun cdv A outer st H vs Q E hr h => ?_)
  · obtain ⟨_, _, _, _, _, _, _, _, rfl, _⟩ := h
    rfl
  · obtain ⟨p, k, f, d, m, w1, w2, g, rfl, hp, o, q⟩ := h
    obtain ⟨e_k, e_f, e_d, e_m, e_w1, e_w2, e_g⟩ := numF_at k f d m w1 w2 g
    refine ⟨_, (pss_cons (ps_if (pt_not (pt_val (pe_call D_is_safe.ok (hr.mono (by first | decide | omega)) (by rfl) D_is_safe.m D_is_safe.kp D_is_safe.b .nil pass0 (pa_cons (pv 0) (pa_cons pe_int pa_nil)))))
  (pss_one (ps_ret pe_non))
  pss_nil)
  (pss_cons (ps_set (i := 1) sc_spread_borne.nd rfl (by first | exact Or.inl rfl | exact Or.inr rfl) (pe_callB (call_min2 rfl) (by rfl) T.min (by decide +kernel) (pa_cons (pe_op op_sub (pe_call D_near_slack.ok (hr.mono (by first | decide | omega)) (by rfl) D_near_slack.m D_near_slack.kp D_near_slack.b .nil pass0 (pa_cons (pv 0) (pa_cons pe_int pa_nil))) pe_int) (pa_cons (pe_call D_mend_slack.ok (hr.mono (by first | decide | omega)) (by rfl) D_mend_slack.m D_mend_slack.kp D_mend_slack.b .nil pass0 (pa_cons (pv 0) (pa_cons pe_int pa_nil))) pa_nil))))
  (pss_one (ps_ret (pe_callB (call_max2 rfl) (by rfl) T.max (by decide +kernel) (pa_cons pe_int (pa_cons (pe_callB (call_min2 rfl) (by rfl) T.min (by decide +kernel) (pa_cons (pv 1) (pa_cons (pe_fld (pv 0) rfl) pa_nil))) pa_nil))))))), ?_⟩
    unfold spreadO at q
    dsimp only at q
    refine ⟨_, rfl, p, k, f, d, m, w1, w2, g, 0, rfl, hp, o.at0, _, rfl, if_n (c := safeB k f m w1 w2 g 0) (fun h1 => ?_) (fun h1 => ?_)⟩
    · rw [h1, if_neg Bool.false_ne_true] at q
      exact q
    · rw [if_pos h1] at q
      refine ⟨_, rfl, p, k, f, d, m, w1, w2, g, 0, rfl, hp, o.at0, _, _, rfl, rfl, _, rfl, p, k, f, d, m, w1, w2, g, 0, rfl, hp, o.at0, _, _, rfl, ?_⟩
      obtain ⟨dx, hp⟩ := hp
      exact ⟨_, rfl, _, rfl, p, T.C_Numbers, dx, _, _, rfl, hp, T.cl, T.nk, e_k, _, _, rfl, _, _, rfl, q⟩
theorem ok_pieces {f : Addr} {fd : FuncData} (F : Fun K "pieces_borne" "pieces_borne" s_pieces_borne f fd) (T : Txt K mg) (D_is_single : Df P w K mg base 2 "is_single" ["numbers", "spread"] (spNum T.C_Numbers fun k f d m w1 w2 g s => .bl (singleB k f w1 w2 g s)))
    (D_far_slack : Df P w K mg base 1 "far_slack" ["numbers", "spread"] (spNum T.C_Numbers fun k f d m w1 w2 g s => .int (farI k f w2 g s))) :
    FnOk P w K mg base CX0 3 f fd ["numbers", "spread"] (spNum T.C_Numbers fun k f d m w1 w2 g s => optV (piecesO k f w1 w2 g s)) := by
  refine F.ok sc_pieces_borne (fun vs H Q E h => ?_) (fun cdv A outer st H vs Q E hr h => ?_)
  · obtain ⟨_, _, _, _, _, _, _, _, _, rfl, _⟩ := h
    rfl
  · obtain ⟨p, k, f, d, m, w1, w2, g, s, rfl, hp, o, q⟩ := h
    obtain ⟨e_k, e_f, e_d, e_m, e_w1, e_w2, e_g⟩ := numF_at k f d m w1 w2 g
    refine ⟨_, (pss_cons (ps_if (pt_not (pt_val (pe_call D_is_single.ok (hr.mono (by first | decide | omega)) (by rfl) D_is_single.m D_is_single.kp D_is_single.b .nil pass0 (pa_cons (pv 0) (pa_cons (pv 1) pa_nil)))))
  (pss_one (ps_ret pe_non))
  pss_nil)
  (pss_cons (ps_set (i := 2) sc_pieces_borne.nd rfl (by first | exact Or.inl rfl | exact Or.inr rfl) (pe_ifExp (pt_cmpR op_eq (pv 1) pe_int (nomark _)) (pe_op op_sub (pe_fld (pv 0) rfl) (pe_fld (pv 0) rfl)) (pe_call D_far_slack.ok (hr.mono (by first | decide | omega)) (by rfl) D_far_slack.m D_far_slack.kp D_far_slack.b .nil pass0 (pa_cons (pv 0) (pa_cons (pv 1) pa_nil)))))
  (pss_one (ps_ret (pe_ifExp (pt_cmpR op_gt (pv 2) pe_int (nomark _)) (pe_callB (call_min3I rfl) (by rfl) T.min (by decide +kernel) (pa_cons (pv 2) (pa_cons (pe_fld (pv 0) rfl) (pa_cons (pe_glob (v := .int 6) (by rfl) T.c_MOST_MADE ⟨_, rfl⟩) pa_nil)))) pe_non))))), ?_⟩
    unfold piecesO at q
    dsimp only at q
    refine ⟨_, rfl, _, rfl, p, k, f, d, m, w1, w2, g, s, rfl, hp, o, _, rfl, if_n (c := singleB k f w1 w2 g s) (fun h1 => ?_) (fun h1 => ?_)⟩
    · rw [h1, if_neg Bool.false_ne_true] at q
      exact q
    · rw [if_pos h1] at q
      obtain ⟨dx, hp⟩ := hp
      refine ⟨_, rfl, rfl, _, rfl, eqz (fun z => ?_) (fun z => ?_)⟩
      · rw [show piecesM k f w2 g s = w2 - f from if_pos z] at q
        refine ⟨_, rfl, p, T.C_Numbers, dx, _, _, rfl, hp, T.cl, T.nw2, e_w2, _, rfl, p, T.C_Numbers, dx, _, _, rfl, hp, T.cl, T.nf, e_f, _, _, rfl, rfl, _, rfl, _, _, rfl, rfl, _, rfl, ite_dec (fun z1 => ?_) (fun z1 => ?_)⟩
        · rw [if_pos (show w2 - f > 0 from z1)] at q
          exact ⟨_, rfl, _, rfl, p, T.C_Numbers, dx, _, _, rfl, hp, T.cl, T.nk, e_k, _, _, _, rfl, q⟩
        · rw [if_neg (show ¬ w2 - f > 0 from z1)] at q
          exact q
      · rw [show piecesM k f w2 g s = farI k f w2 g s from if_neg z] at q
        refine ⟨_, rfl, _, rfl, p, k, f, d, m, w1, w2, g, s, rfl, ⟨dx, hp⟩, o, _, rfl, _, _, rfl, rfl, _, rfl, ite_dec (fun z1 => ?_) (fun z1 => ?_)⟩
        · rw [if_pos (show farI k f w2 g s > 0 from z1)] at q
          exact ⟨_, rfl, _, rfl, p, T.C_Numbers, dx, _, _, rfl, hp, T.cl, T.nk, e_k, _, _, _, rfl, q⟩
        · rw [if_neg (show ¬ farI k f w2 g s > 0 from z1)] at q
          exact q
theorem ok_can_end {f : Addr} {fd : FuncData} (F : Fun K "can_end" "can_end" s_can_end f fd) (T : Txt K mg) : FnOk P w K mg base CX0 1 f fd ["numbers"] (spNum1 T.C_Numbers fun k f d m w1 w2 g => .bl (decide (mx (mx w1 w2) g ≤ k - f))) := by
  refine F.ok sc_can_end (fun vs H Q E h => ?_) (fun cdv A outer st H vs Q E hr h => ?_)
  · obtain ⟨_, _, _, _, _, _, _, _, rfl, _⟩ := h
    rfl
  · obtain ⟨p, k, f, d, m, w1, w2, g, rfl, ⟨dx, hp⟩, o, q⟩ := h
    obtain ⟨e_k, e_f, e_d, e_m, e_w1, e_w2, e_g⟩ := numF_at k f d m w1 w2 g
    refine ⟨_, (pss_one (ps_ret (pe_cmpR op_le (pe_callB (call_max3I rfl) (by rfl) T.max (by decide +kernel) (pa_cons (pe_fld (pv 0) rfl) (pa_cons (pe_fld (pv 0) rfl) (pa_cons (pe_fld (pv 0) rfl) pa_nil)))) (pe_op op_sub (pe_fld (pv 0) rfl) (pe_fld (pv 0) rfl)) (nomark _)))), ?_⟩
    exact ⟨_, rfl, p, T.C_Numbers, dx, _, _, rfl, hp, T.cl, T.nw1, e_w1, _, rfl, p, T.C_Numbers, dx, _, _, rfl, hp, T.cl, T.nw2, e_w2, _, rfl, p, T.C_Numbers, dx, _, _, rfl, hp, T.cl, T.ng, e_g, _, _, _, rfl, _, rfl, p, T.C_Numbers, dx, _, _, rfl, hp, T.cl, T.nk, e_k, _, rfl, p, T.C_Numbers, dx, _, _, rfl, hp, T.cl, T.nf, e_f, _, _, rfl, rfl, _, _, rfl, rfl, q⟩
end
end K26

namespace K26
open PySem PySem.Spec PyProof.Rows L2 Hl
def ErT (K : PySem.W.Frag) : Hp → V → Tri → Prop := fun H y t => Dp K H y (triD t)
theorem ErT.mono {K : PySem.W.Frag} {H H' : Hp} {y : V} {t : Tri} (e : Same H H') (h : ErT K H y t) : ErT K H' y t := dp_mono e h
theorem ers_dps {K : PySem.W.Frag} {H : Hp} : ∀ {us : List V} {L : List Tri}, Ers (ErT K) H us L → DpAll K H us (L.map triD)
  | _, _, .nil => .nil
  | _, _, .cons h t => .cons h (ers_dps t)
/-- a triple's address and what lies there -/
theorem tri_at {K : PySem.W.Frag} {H : Hp} {y : V} {t : Tri} (h : ErT K H y t) : ∃ a, y = .ref a ∧ SqT K H a [.int t.1, .int t.2.1, .int t.2.2] := by
  unfold ErT triD at h
  cases h with
  | tup hs ha =>
    cases ha with
    | cons h1 ha =>
      cases ha with
      | cons h2 ha =>
        cases ha with
        | cons h3 ha =>
          cases ha
          rw [dp_int h1, dp_int h2, dp_int h3] at hs
          exact ⟨_, rfl, hs⟩
theorem tri_new {K : PySem.W.Frag} {H : Hp} {p : Addr} (a b c : Int) : ErT K (upd H p (.tup [.int a, .int b, .int c])) (.ref p) (a, b, c) := .tup (SqT.of upd_same) (.cons (.int a) (.cons (.int b) (.cons (.int c) .nil)))
/-- a triple is not a list, so what a list becomes is nothing to it -/
theorem tri_off {K : PySem.W.Frag} {H : Hp} {D : Addr} {xs : List V} {o : HO} {y : V} {t : Tri} (h : ErT K (upd H D (.lst xs)) y t) : ErT K (upd H D o) y t := by
  obtain ⟨a, rfl, hs⟩ := tri_at h
  refine .tup (xs := [.int t.1, .int t.2.1, .int t.2.2]) ?_ (.cons (.int _) (.cons (.int _) (.cons (.int _) .nil)))
  have ne : ∀ {u : HO}, upd H D (.lst xs) a = some u → u ≠ .lst xs → upd H D o a = some u := fun e n => by
    by_cases z : a = D
    · rw [z, upd_same] at e
      exact absurd (Option.some.inj e).symm n
    · rw [upd_ne z] at e ⊢
      exact e
  rcases hs with (hs | ⟨o', hs⟩) | hs
  · exact .inl (.inl (ne hs (fun z => nomatch z)))
  · exact .inl (.inr ⟨o', ne hs (fun z => nomatch z)⟩)
  · exact .inr hs
theorem upd_id {H : Hp} {D : Addr} {o : HO} (h : H D = some o) : upd H D o = H := by
  funext b
  by_cases z : b = D
  · rw [z, upd_same, h]
  · rw [upd_ne z]
/-- the same, with D a list -/
def ErTD (K : PySem.W.Frag) (D : Addr) : Hp → V → Tri → Prop := fun H y t => ErT K (upd H D (.lst [])) y t
theorem ErTD.em {K : PySem.W.Frag} {D : Addr} {H H' : Hp} {y : V} {t : Tri} (e : Same H H') (h : ErTD K D H y t) : ErTD K D H' y t := by
  refine ErT.mono (fun b o hb => ?_) h
  by_cases z : b = D
  · rw [z, upd_same] at hb ⊢
    exact hb
  · rw [upd_ne z] at hb ⊢
    exact e _ _ hb
theorem ErTD.ep {K : PySem.W.Frag} {D : Addr} {H : Hp} {o : HO} {y : V} {t : Tri} (h : ErTD K D H y t) : ErTD K D (upd H D o) y t := by
  unfold ErTD at *
  rw [show upd (upd H D o) D (.lst []) = upd H D (.lst []) by
    funext b
    by_cases z : b = D
    · rw [z, upd_same, upd_same]
    · rw [upd_ne z, upd_ne z, upd_ne z]]
  exact h
theorem ErTD.to {K : PySem.W.Frag} {D : Addr} {H : Hp} {us : List V} {y : V} {t : Tri} (hD : H D = some (.lst us)) (h : ErTD K D H y t) : ErT K H y t := by
  rw [← upd_id hD]
  exact tri_off h
theorem ErTD.of {K : PySem.W.Frag} {D : Addr} {H : Hp} {us : List V} {y : V} {t : Tri} (hD : H D = some (.lst us)) (h : ErT K H y t) : ErTD K D H y t := by
  rw [← upd_id hD] at h
  exact tri_off h
theorem upI_len (lo hi : Int) : (upI lo hi).length = (hi - lo).toNat := by unfold upI; rw [List.length_map, List.length_range]
theorem upI_take {lo hi : Int} {i : Nat} (h : i < (hi - lo).toNat) : (upI lo hi).take (i + 1) = (upI lo hi).take i ++ [lo + (i : Nat)] := by
  rw [List.take_succ]
  congr 1
  unfold upI
  rw [List.getElem?_map, List.getElem?_range h]
  rfl
section
variable {P : Program} {w : World} {K : PySem.W.Frag} {mg : Str → Option Value} {base : Heap}
def sp_least (K : PySem.W.Frag) : Sp := fun vs H Q _ => ∃ k f m s most : Int, vs = [.int k, .int f, .int m, .int s, .int most] ∧ (1 ≤ k ∧ k ≤ 12) ∧ (0 ≤ f ∧ f ≤ 12) ∧ (1 ≤ m ∧ m ≤ 12) ∧ (0 ≤ s ∧ s ≤ 12) ∧ (0 ≤ most ∧ most ≤ 12) ∧
  ∀ t us H', Same H H' → SqT K H' t us → Ers (ErT K) H' us (leastL k f m s most) → Q (.ref t) H'
theorem ok_least {f : Addr} {fd : FuncData} (F : Fun K "least_triples" "least_triples" s_least_triples f fd) (T : Txt K mg) : FnOk P w K mg base CX0 1 f fd ["k", "f", "m", "spread", "most"] (sp_least K) := by
  refine F.ok sc_least_triples (fun vs H Q E h => ?_) (fun cdv A outer st H vs Q E hr h => ?_)
  · obtain ⟨_, _, _, _, _, rfl, _⟩ := h
    rfl
  · obtain ⟨k, f, m, s, most, rfl, hk, hf, hm, hs, hmo, q⟩ := h
    refine ⟨_, (pss_cons (ps_set (i := 5) sc_least_triples.nd rfl (by first | exact Or.inl rfl | exact Or.inr rfl) (pe_op op_add (pe_op op_fdivN (pe_op op_add (pe_op op_add (pv 0) (pv 3)) (pv 1)) pe_int) pe_int))
  (pss_cons (ps_if (pt_cmpR op_gt (pv 5) (pv 4) (nomark _))
  (pss_one (ps_ret (pe_tup pa_nil)))
  pss_nil)
  (pss_cons (ps_if (pt_cmpR op_eq (pv 3) pe_int (nomark _))
  (pss_one (ps_ret (pe_ifExp (pt_cmpR op_le (pe_op op_add (pv 1) (pv 2)) (pv 4) (nomark _)) (pe_tup (pa_cons (pe_tup (pa_cons (pv 5) (pa_cons (pe_op op_add (pv 1) (pv 2)) (pa_cons pe_int pa_nil)))) pa_nil)) (pe_tup pa_nil))))
  pss_nil)
  (pss_cons (ps_set (i := 6) sc_least_triples.nd rfl (by first | exact Or.inl rfl | exact Or.inr rfl) (pe_op op_add (pe_op op_add (pe_op op_add (pv 0) (pv 3)) (pv 1)) (pv 2)))
  (pss_one (ps_ret (pe_callTy call_tuple_of (by rfl) T.tuple (by decide +kernel) (pa_cons (pe_lc (own := [("second", 7)]) (by rfl) sc_least_triples.nd (pi_range2 (by rfl) T.range (pa_cons (pe_op op_sub (pv 6) (pv 4)) (pa_cons (pe_op op_add (pv 4) pe_int) pa_nil))) (blkOk_by (own := [("second", 7)]) (N := N_least_triples) (sc := defScope s_least_triples) (by decide +kernel)) (fun _ _ _ _ _ => (pg_name (i := 7) sc_least_triples.nd rfl (by first | exact Or.inl rfl | exact Or.inr rfl))) (fun _ _ _ _ _ => pts_nil) (fun _ _ _ _ _ => (pe_tup (pa_cons (pv 5) (pa_cons (pv 7) (pa_cons (pe_op op_sub (pv 6) (pv 7)) pa_nil)))))) pa_nil)))))))), ?_⟩
    refine ⟨_, rfl, _, rfl, _, _, rfl, rfl, _, rfl, _, _, rfl, rfl, _, _, rfl, rfl, ⟨by decide, by decide⟩, _, _, rfl, rfl, ?_⟩
    have ef : (k + s + f).fdiv 2 + 1 = firstI k f s := by
      unfold firstI
      rw [Int.fdiv_eq_ediv_of_nonneg _ (by omega)]
    simp only [ef]
    unfold leastL at q
    refine ⟨_, rfl, _, rfl, _, _, rfl, rfl, _, rfl, ite_dec (fun z => ?_) (fun z => ?_)⟩
    · rw [if_pos z] at q
      exact ⟨by show 0 ≤ sizeLine; decide, fun t ht => q t [] _ (same_new ht) (SqT.of upd_same) .nil⟩
    rw [if_neg z] at q
    refine ⟨_, rfl, rfl, _, rfl, eqz (fun z1 => ?_) (fun z1 => ?_)⟩
    · rw [if_pos z1] at q
      refine ⟨_, rfl, _, rfl, _, _, rfl, rfl, _, rfl, _, _, rfl, rfl, _, rfl, ite_dec (fun z2 => ?_) (fun z2 => ?_)⟩
      · rw [if_pos z2] at q
        refine ⟨_, rfl, _, rfl, _, rfl, _, _, rfl, rfl, (by show 3 ≤ sizeLine; decide), fun p hp => ⟨(by show 1 ≤ sizeLine; decide), fun t ht => ?_⟩⟩
        exact q t [.ref p] _ ((same_new hp).trans (same_new ht)) (SqT.of upd_same) (.cons ((tri_new _ _ _).mono (same_new ht)) .nil)
      · rw [if_neg z2] at q
        exact ⟨by show 0 ≤ sizeLine; decide, fun t ht => q t [] _ (same_new ht) (SqT.of upd_same) .nil⟩
    rw [if_neg z1] at q
    refine ⟨_, rfl, _, rfl, _, _, rfl, rfl, _, rfl, _, _, rfl, rfl, _, rfl, _, _, rfl, rfl, ?_⟩
    refine ⟨_, rfl, _, rfl, _, _, rfl, rfl, _, rfl, _, _, rfl, rfl, _, _, rfl, ⟨by omega, by omega, by omega, by omega⟩, fun D hD => ?_⟩
    refine lc_same (walk_range (lo := k + s + f + m - most) (n := (most + 1 - (k + s + f + m - most)).toNat)) (by omega) hD (ErTD K D) (fun _ _ _ _ _ e h => h.em e) (fun H o y t e h => h.ep)
      (fun i L => L = ((upI (k + s + f + m - most) (most + 1)).take i).map fun y => (firstI k f s, y, k + s + f + m - y)) rfl (fun _ _ => trivial) ?_ ?_
    · rintro i x H5 H6 L hi sm ⟨acc, hacc⟩ rfl ⟨rfl, rfl⟩ A B hA hB
      refine ⟨rfl, t_yes ?_⟩
      refine ⟨_, rfl, _, rfl, _, rfl, _, rfl, _, _, rfl, rfl, (by show 3 ≤ sizeLine; decide), fun p hp => ?_⟩
      exact hA _ _ _ (same_new hp) (ErTD.of (same_new hp _ _ hacc) (tri_new _ _ _)) (by rw [upI_take hi, List.map_append]; rfl)
    · rintro H5 us L sm hD5 hE rfl
      refine ⟨D, us, rfl, .inl ⟨SqL.of hD5, fun t ht => ?_⟩⟩
      refine q t us _ (sm.trans (same_new ht)) (SqT.of upd_same) ?_
      rw [List.take_of_length_le (by rw [upI_len]; exact Nat.le_refl _)] at hE
      exact (hE.mono' fun y a h => h.to hD5).mono fun y a h => h.mono (same_new ht)
/-- a triple's cost -/
def cost3 (p0 p1 p2 : Int) (t : Tri) : Int := t.1 * p0 + t.2.1 * p1 + t.2.2 * p2
/-- the first of least cost so far -/
def bestStep (p0 p1 p2 : Int) (o : Option (Int × Tri)) (t : Tri) : Option (Int × Tri) :=
  match o with
  | none => some (cost3 p0 p1 p2 t, t)
  | some b => if cost3 p0 p1 p2 t < b.1 then some (cost3 p0 p1 p2 t, t) else some b
def bestL (p0 p1 p2 : Int) (L : List Tri) : Option (Int × Tri) := L.foldl (bestStep p0 p1 p2) none
def optD : Option (Int × Tri) → PyData
  | none => .none
  | some b => triD b.2
/-- how best stands in the heap -/
def BestAt (K : PySem.W.Frag) (H : Hp) : Option V → Option (Int × Tri) → Prop
  | v, none => v = some .non
  | v, some b => ∃ (r : Addr) (y : V), v = some (.ref r) ∧ SqT K H r [.int b.1, y] ∧ ErT K H y b.2
theorem BestAt.mono {K : PySem.W.Frag} {H H' : Hp} {v : Option V} : ∀ {o : Option (Int × Tri)}, Same H H' → BestAt K H v o → BestAt K H' v o
  | none, _, h => h
  | some _, e, ⟨r, y, h1, h2, h3⟩ => ⟨r, y, h1, seqT e h2, h3.mono e⟩
theorem sum3 (a b c : Int) : ([a, b, c].take 3).sum = a + b + c := by
  simp only [List.take_succ_cons, List.take_zero, List.sum_cons, List.sum_nil]; omega
theorem bestL_take {p0 p1 p2 : Int} {L : List Tri} {i : Nat} {t : Tri} (h : L[i]? = some t) : bestL p0 p1 p2 (L.take (i + 1)) = bestStep p0 p1 p2 (bestL p0 p1 p2 (L.take i)) t := by
  unfold bestL
  rw [List.take_succ, h, Option.toList_some, List.foldl_append]
  rfl
/-- all numbers of a triple are small -/
def Small (t : Tri) : Prop := (-100 ≤ t.1 ∧ t.1 ≤ 100) ∧ (-100 ≤ t.2.1 ∧ t.2.1 ≤ 100) ∧ (-100 ≤ t.2.2 ∧ t.2.2 ≤ 100)
theorem least_small {k f m s most : Int} (hk : 1 ≤ k ∧ k ≤ 12) (hf : 0 ≤ f ∧ f ≤ 12) (hm : 1 ≤ m ∧ m ≤ 12) (hs : 0 ≤ s ∧ s ≤ 12) (hmo : 0 ≤ most ∧ most ≤ 12) {t : Tri} (h : t ∈ leastL k f m s most) : Small t := by
  have hfi : 1 ≤ firstI k f s ∧ firstI k f s ≤ 20 := by unfold firstI; omega
  unfold leastL at h
  split at h
  · cases h
  split at h
  · split at h
    · rw [List.mem_singleton] at h
      subst h
      exact ⟨⟨by omega, by omega⟩, ⟨by show (-100 : Int) ≤ f + m; omega, by show f + m ≤ 100; omega⟩, ⟨by show (-100 : Int) ≤ 1; decide, by show (1 : Int) ≤ 100; decide⟩⟩
    · cases h
  · obtain ⟨y, hy, rfl⟩ := List.mem_map.mp h
    unfold upI at hy
    obtain ⟨i, hi, rfl⟩ := List.mem_map.mp hy
    have := List.mem_range.mp hi
    refine ⟨⟨by show (-100 : Int) ≤ firstI k f s; omega, by show firstI k f s ≤ 100; omega⟩, ⟨?_, ?_⟩, ⟨?_, ?_⟩⟩ <;> dsimp only <;> omega
def sp_cheapest (K : PySem.W.Frag) : Sp := fun vs H Q _ => ∃ (k f m s most p0 p1 p2 : Int) (a : Addr), vs = [.int k, .int f, .int m, .int s, .int most, .ref a] ∧ SqT K H a [.int p0, .int p1, .int p2] ∧ (1 ≤ k ∧ k ≤ 12) ∧ (0 ≤ f ∧ f ≤ 12) ∧ (1 ≤ m ∧ m ≤ 12) ∧ (0 ≤ s ∧ s ≤ 12) ∧ (0 ≤ most ∧ most ≤ 12) ∧
  ∀ v H', Same H H' → Dp K H' v (optD (bestL p0 p1 p2 (leastL k f m s most))) → Q v H'
theorem ok_cheapest {f : Addr} {fd : FuncData} (F : Fun K "cheapest_triple" "cheapest_triple" s_cheapest_triple f fd) (T : Txt K mg) (D_least_triples : Df P w K mg base 1 "least_triples" ["k", "f", "m", "spread", "most"] (sp_least K)) :
    FnOk P w K mg base CX0 2 f fd ["k", "f", "m", "spread", "most", "prices"] (sp_cheapest K) := by
  refine F.ok sc_cheapest_triple (fun vs H Q E h => ?_) (fun cdv A outer st H vs Q E hr h => ?_)
  · obtain ⟨_, _, _, _, _, _, _, _, _, rfl, _⟩ := h
    rfl
  · obtain ⟨k, f, m, s, most, p0, p1, p2, a, rfl, hp, hk, hf, hm, hs, hmo, q⟩ := h
    refine ⟨_, (pss_cons (ps_set (i := 6) sc_cheapest_triple.nd rfl (by first | exact Or.inl rfl | exact Or.inr rfl) pe_non)
  (pss_cons (ps_for PassesOwn.never rfl (pi_tup (pe_call D_least_triples.ok (hr.mono (by first | decide | omega)) (by rfl) D_least_triples.m D_least_triples.kp D_least_triples.b .nil pass0 (pa_cons (pv 0) (pa_cons (pv 1) (pa_cons (pv 2) (pa_cons (pv 3) (pa_cons (pv 4) pa_nil))))))) (pg_name (i := 7) sc_cheapest_triple.nd rfl (by first | exact Or.inl rfl | exact Or.inr rfl))
  (pss_cons (ps_set (i := 8) sc_cheapest_triple.nd rfl (by first | exact Or.inl rfl | exact Or.inr rfl) (pe_callB (cr_sum rfl) (by rfl) T.sum (by decide +kernel) (pa_cons (pe_lc (own := [("one", 9), ("price", 10)]) (by rfl) sc_cheapest_triple.nd (RZ.pi_zipA (by rfl) T.zip (pa_cons (pv 7) (pa_cons (pv 5) pa_nil))) (blkOk_by (own := [("one", 9), ("price", 10)]) (N := N_cheapest_triple) (sc := defScope s_cheapest_triple) (by decide +kernel)) (fun _ _ _ _ _ => (kpg_tup (K := K) (n := 2) rfl rfl (pgs_cons (pg_name (i := 9) sc_cheapest_triple.nd rfl (by first | exact Or.inl rfl | exact Or.inr rfl)) (pgs_cons (pg_name (i := 10) sc_cheapest_triple.nd rfl (by first | exact Or.inl rfl | exact Or.inr rfl)) pgs_nil)))) (fun _ _ _ _ _ => pts_nil) (fun _ _ _ _ _ => (pe_op op_mul (pv 9) (pv 10)))) pa_nil)))
  (pss_one (ps_if (PW.pt (pw_or (pt_cmpR op_isN (pv 6) pe_non (nomark _)) (pw_or1 (pt_cmpR op_lt (pv 8) (pe_ix ix_tup (pv 6) pe_int (fun _ _ => rfl)) (nomark _)))))
  (pss_one (ps_set (i := 6) sc_cheapest_triple.nd rfl (by first | exact Or.inl rfl | exact Or.inr rfl) (pe_tup (pa_cons (pv 8) (pa_cons (pv 7) pa_nil)))))
  pss_nil))))
  (pss_one (ps_ret (pe_ifExp (pt_cmpR op_isN (pv 6) pe_non (nomark _)) pe_non (pe_ix ix_tup (pv 6) pe_int (fun _ _ => rfl))))))), ?_⟩
    refine ⟨_, rfl, _, rfl, _, rfl, _, rfl, _, rfl, k, f, m, s, most, rfl, hk, hf, hm, hs, hmo, fun t us H1 s1 ht hE => ?_⟩
    have hsm : ∀ u, u ∈ leastL k f m s most → Small u := fun u h => least_small hk hf hm hs hmo h
    have hlen := hE.len
    generalize leastL k f m s most = L at q hE hsm hlen
    refine ⟨t, rfl, ⟨us, ht⟩, for_tup (xs := us) (fun i σ H' => ∃ v x y z u, σ = [some (.int k), some (.int f), some (.int m), some (.int s), some (.int most), some (.ref a), v, x, y, z, u] ∧ Same H1 H' ∧ BestAt K H' v (bestL p0 p1 p2 (L.take i)))
      ⟨_, _, _, _, _, rfl, Same.refl _, rfl⟩ (fun i σ H' _ ⟨_, _, _, _, _, _, sm, _⟩ => seqT sm ht) ?_ ?_⟩
    · rintro i y σ H2 hy ⟨v, x0, x1, x2, x3, rfl, sm, hb⟩
      obtain ⟨u, hu, hd⟩ := hE.get hy
      obtain ⟨c, rfl, hc⟩ := tri_at (hd.mono sm)
      have hsu := hsm u (List.mem_of_getElem? hu)
      have hp2 := seqT (s1.trans sm) hp
      refine ⟨_, rfl, _, rfl, c, a, _, _, rfl, .inr ⟨hc, hp2, fun D hD => ?_⟩⟩
      refine lc_same (walk_zipT (n := 3) rfl rfl) (by decide) hD ErI (fun _ _ _ _ _ _ h => h) (fun _ _ _ _ _ h => h)
        (fun j l => l = [u.1 * p0, u.2.1 * p1, u.2.2 * p2].take j) rfl (fun H2 sm => ⟨seqT sm hc, seqT sm hp2⟩) ?_ ?_
      · rintro j x H3 H4 l hj sm3 - rfl ⟨T', y1, y2, rfl, hT, rfl, e1, e2⟩ A B hA hB
        obtain ⟨n1, n2, rfl, rfl, hn1, e⟩ : ∃ n1 n2 : Int, y1 = .int n1 ∧ y2 = .int n2 ∧ (-100 ≤ n1 ∧ n1 ≤ 100) ∧ [u.1 * p0, u.2.1 * p1, u.2.2 * p2].take (j + 1) = [u.1 * p0, u.2.1 * p1, u.2.2 * p2].take j ++ [n1 * n2] := by
          match j, hj, e1, e2 with
          | 0, _, e1, e2 => exact ⟨_, _, (Option.some.inj e1).symm, (Option.some.inj e2).symm, hsu.1, rfl⟩
          | 1, _, e1, e2 => exact ⟨_, _, (Option.some.inj e1).symm, (Option.some.inj e2).symm, hsu.2.1, rfl⟩
          | 2, _, e1, e2 => exact ⟨_, _, (Option.some.inj e1).symm, (Option.some.inj e2).symm, hsu.2.2, rfl⟩
        refine ⟨T', _, rfl, SqT.of upd_same, rfl, _, _, rfl, _, [], rfl, rfl, rfl, t_yes ?_⟩
        refine ⟨_, rfl, _, rfl, _, _, rfl, rfl, .inl ⟨by omega, by omega⟩, ?_⟩
        exact hA _ _ _ (same_new hT) rfl e.symm
      · rintro H3 us3 l sm3 hD3 hE3 rfl
        have e := hE3.ints
        subst e
        refine ⟨D, _, rfl, SqL.of hD3, ?_⟩
        rw [sum3, show u.1 * p0 + u.2.1 * p1 + u.2.2 * p2 = cost3 p0 p1 p2 u from rfl]
        have hb3 := hb.mono sm3
        have hc3 : ErT K H3 (.ref c) u := (hd.mono sm).mono sm3
        have sm13 := sm.trans sm3
        rw [bestL_take hu]
        have put : ∀ {ro : Option (Int × Tri)}, ro = some (cost3 p0 p1 p2 u, u) → ∀ t', H3 t' = none → BestAt K (upd H3 t' (.tup [.int (cost3 p0 p1 p2 u), .ref c])) (some (.ref t')) ro := fun e t' ht' => by
          subst e
          exact ⟨t', _, rfl, SqT.of upd_same, hc3.mono (same_new ht')⟩
        cases hbo : bestL p0 p1 p2 (L.take i) with
        | none =>
          rw [hbo] at hb3
          obtain rfl : v = some .non := hb3
          refine ⟨_, rfl, rfl, _, rfl, iteT ⟨_, rfl, _, rfl, (by show 2 ≤ sizeLine; decide), fun t' ht' => ?_⟩⟩
          exact ⟨_, _, _, _, _, rfl, sm13.trans (same_new ht'), put rfl t' ht'⟩
        | some b =>
          rw [hbo] at hb3
          obtain ⟨r, y, rfl, hr3, hy3⟩ := hb3
          refine ⟨_, rfl, rfl, _, rfl, iteF ⟨_, rfl, _, rfl, r, _, 0, _, rfl, rfl, hr3, atI_nat (j := 0) rfl, _, _, rfl, rfl, _, rfl, ite_dec (fun z => ?_) (fun z => ?_)⟩⟩
          · refine ⟨_, rfl, _, rfl, (by show 2 ≤ sizeLine; decide), fun t' ht' => ?_⟩
            exact ⟨_, _, _, _, _, rfl, sm13.trans (same_new ht'), put (if_pos z) t' ht'⟩
          · refine ⟨_, _, _, _, _, rfl, sm13, ?_⟩
            rw [show bestStep p0 p1 p2 (some b) u = some b from if_neg z]
            exact ⟨r, y, rfl, hr3, hy3⟩
    · rintro σ H2 ⟨v, x0, x1, x2, x3, rfl, sm, hb⟩
      rw [List.take_of_length_le (by rw [hlen]; exact Nat.le_refl _)] at hb
      have q2 := fun v => q v H2 (s1.trans sm)
      cases hbo : bestL p0 p1 p2 L with
      | none =>
        rw [hbo] at hb q2
        obtain rfl : v = some .non := hb
        exact ⟨_, rfl, rfl, _, rfl, iteT (q2 _ .non)⟩
      | some b =>
        rw [hbo] at hb q2
        obtain ⟨r, y, rfl, hr3, hy3⟩ := hb
        exact ⟨_, rfl, rfl, _, rfl, iteF ⟨_, rfl, r, _, 1, _, rfl, rfl, hr3, atI_nat (j := 1) rfl, q2 _ hy3⟩⟩
end
end K26

namespace K26
open PySem PySem.Spec PyProof.Rows L2 Hl
/-! ### the law's own defs -/
theorem lay_ints : ∀ ns : List Int, PyData.canLayAll0 (ns.map PyData.int) = true
  | [] => by simp [PyData.canLayAll0]
  | n :: r => by simp [PyData.canLayAll0, PyData.canLay0, lay_ints r]
theorem depth_ints : ∀ ns : List Int, PyData.depthAll (ns.map PyData.int) = 0
  | [] => by simp [PyData.depthAll]
  | n :: r => by
    have h := depth_ints r
    simp only [List.map_cons, PyData.depthAll, PyData.depth, h]
    rfl
theorem shaped_ints (ns : List Int) : SeqAt.shaped (.list (ns.map PyData.int)) = true := by
  show ((PyData.list (ns.map PyData.int)).canLay0 && decide ((PyData.list (ns.map PyData.int)).depth ≤ 64)) = true
  simp only [PyData.canLay0, PyData.depth, lay_ints, depth_ints]
  rfl
def Frm (w q : Addr) (H H' : Hp) : Prop := ∀ a o, a ≠ w → a ≠ q → H a = some o → H' a = some o
def HeapAt (H : Hp) (w q : Addr) : Prop := ∃ (cs : List Int) (st : Int), H w = some (.lst [.ref q, .int st]) ∧ H q = some (.lst (cs.map V.int)) ∧ (∀ c ∈ cs, 0 ≤ c) ∧ cs.length ≤ 63 ∧ 0 ≤ st ∧ st < 2147483647
theorem Frm.refl (w q : Addr) (H : Hp) : Frm w q H H := fun _ _ _ _ h => h
theorem Frm.trans {w q : Addr} {H H' H'' : Hp} (a : Frm w q H H') (b : Frm w q H' H'') : Frm w q H H'' := fun x o h1 h2 h => b x o h1 h2 (a x o h1 h2 h)
theorem Frm.same {w q : Addr} {H H' : Hp} (e : Same H H') : Frm w q H H' := fun x o _ _ h => e x o h
theorem Frm.w {w q : Addr} {H H' : Hp} {o : HO} (e : Frm w q H H') : Frm w q H (upd H' w o) := fun x u h1 h2 h => by rw [upd_ne h1]; exact e x u h1 h2 h
theorem Frm.q {w q : Addr} {H H' : Hp} {o : HO} (e : Frm w q H H') : Frm w q H (upd H' q o) := fun x u h1 h2 h => by rw [upd_ne h2]; exact e x u h1 h2 h
theorem HeapAt.same {H H' : Hp} {w q : Addr} (e : Same H H') (h : HeapAt H w q) : HeapAt H' w q := by
  obtain ⟨cs, st, h1, h2, h3⟩ := h
  exact ⟨cs, st, e _ _ h1, e _ _ h2, h3⟩
theorem at_last (cs : List Int) (h : cs ≠ []) : atI (cs.map V.int) (-1) = some (.int (cs.getLast h)) := by
  have e : cs.map V.int = cs.dropLast.map V.int ++ [.int (cs.getLast h)] := by
    rw [← List.map_singleton, ← List.map_append, List.dropLast_concat_getLast]
  rw [e]
  exact atI_last _ _
theorem get_last (cs : List Int) (h : cs ≠ []) : (cs.map V.int)[(cs.map V.int).length - 1]? = some (.int (cs.getLast h)) := by
  rw [← List.getLast?_eq_getElem?, List.getLast?_map, List.getLast?_eq_getLast h]
  rfl
section
variable {P : Program} {w : World} {K : PySem.W.Frag} {mg : Str → Option Value} {base : Heap}

def sp_draw : Sp := fun vs H Q _ => ∃ (w q : Addr) (many : Int), vs = [.ref w, .int many] ∧ HeapAt H w q ∧ 0 < many ∧ many < 1073741824 ∧ ∀ r H', 0 ≤ r → r < many → Frm w q H H' → HeapAt H' w q → Q (.int r) H'
theorem ok_draw {f : Addr} {fd : FuncData} (F : Fun K "_law_draw" "_law_draw" s__law_draw f fd) (T : Txt K mg) : FnOk P w K mg base CX0 1 f fd ["heap", "many"] sp_draw := by
  refine F.ok sc__law_draw (fun vs H Q E h => ?_) (fun cdv A outer s H vs Q E hr h => ?_)
  · obtain ⟨_, _, _, rfl, _⟩ := h
    rfl
  · obtain ⟨w, q, many, rfl, ⟨cs0, st, hw, hq, hp, hl, hs1, hs2⟩, m0, m1, k⟩ := h
    refine ⟨_, (pss_cons (ps_while PassesOwn.never (PW.pt (pw_and (pt_cmpR (op_neD hr.units) (pe_ix ix_list (pv 0) pe_int (fun _ _ => rfl)) (pe_lst pa_nil) (nomark _)) (pw_and1 (pt_cmpR op_eq (pe_ix ix_list (pe_ix ix_list (pv 0) pe_int (fun _ _ => rfl)) (pe_un un_neg pe_int) (fun _ _ => rfl)) pe_int (nomark _)))))
  (pss_one (ps_expr (pe_bm0 PySem.F.plainAttrs_list PySem.F.slot_list_pop PySem.F.type_list_pop mt_pop (pe_ix ix_list (pv 0) pe_int (fun _ _ => rfl))))))
  (pss_cons (ps_if (pt_cmpR (op_neD hr.units) (pe_ix ix_list (pv 0) pe_int (fun _ _ => rfl)) (pe_lst pa_nil) (nomark _))
  (pss_cons (ps_set (i := 2) sc__law_draw.nd rfl (by first | exact Or.inl rfl | exact Or.inr rfl) (pe_bm0 PySem.F.plainAttrs_list PySem.F.slot_list_pop PySem.F.type_list_pop mt_pop (pe_ix ix_list (pv 0) pe_int (fun _ _ => rfl))))
  (pss_cons (ps_expr (pe_bm PySem.F.plainAttrs_list PySem.F.slot_list_append PySem.F.type_list_append mt_append (pe_ix ix_list (pv 0) pe_int (fun _ _ => rfl)) (pa_cons (pe_op op_fdivN (pv 2) (pv 1)) pa_nil)))
  (pss_one (ps_ret (pe_op op_mod (pe_callTy call_int1 (by rfl) T.int (by decide +kernel) (pa_cons (pv 2) pa_nil)) (pv 1))))))
  pss_nil)
  (pss_cons (ps_asg (pe_op op_mod (pe_callTy call_int1 (by rfl) T.int (by decide +kernel) (pa_cons (pe_op op_add (pe_op op_mul (pe_ix ix_list (pv 0) pe_int (fun _ _ => rfl)) pe_int) pe_int) pa_nil)) pe_int) (pg_sub (pv 0) pe_int set_list))
  (pss_one (ps_ret (pe_op op_mod (pe_callTy call_int1 (by rfl) T.int (by decide +kernel) (pa_cons (pe_op op_fdivN (pe_ix ix_list (pv 0) pe_int (fun _ _ => rfl)) pe_int) pa_nil)) (pv 1))))))), ?_⟩
    -- is a list of ints another one than []
    have test : ∀ {H1 : Hp} {cs : List Int} {p : Addr} {R : VK}, H1 q = some (.lst (cs.map V.int)) → H1 p = none → R (.bl (!cs.isEmpty)) (upd H1 p (.lst [])) → rNeD K (.ref q) (.ref p) (upd H1 p (.lst [])) R := fun {H1 cs p R} h1 h2 r => by
      refine ⟨.list (cs.map PyData.int), .list [], .lst (SqL.of (by rw [upd_ne (ne_of_none h1 h2)]; exact h1)) (dps_ints cs), .lst (SqL.of upd_same) .nil, shaped_ints cs, rfl, ?_⟩
      cases cs with
      | nil => exact r
      | cons c r' => exact r
    refine while_ex (fun m σ H' => σ = [some (.ref w), some (.int many), none] ∧ ∃ cs : List Int, m = cs.length ∧ H' w = some (.lst [.ref q, .int st]) ∧ H' q = some (.lst (cs.map V.int)) ∧ (∀ c ∈ cs, 0 ≤ c) ∧ cs.length ≤ 63 ∧ Frm w q H H')
      (fun σ H' => σ = [some (.ref w), some (.int many), none] ∧ ∃ cs : List Int, H' w = some (.lst [.ref q, .int st]) ∧ H' q = some (.lst (cs.map V.int)) ∧ (∀ c ∈ cs, 0 ≤ c) ∧ cs.length ≤ 63 ∧ Frm w q H H')
      ⟨cs0.length, rfl, cs0, rfl, hw, hq, hp, hl, Frm.refl _ _ _⟩ ?_ ?_
    · rintro m σ H1 ⟨rfl, cs, rfl, hw, hq, hp, hl, fr⟩ Z hZ
      have nwq : w ≠ q := fun e => by
        rw [e, hq] at hw
        cases cs with
        | nil => simp at hw
        | cons c r => simp at hw
      refine ⟨_, rfl, w, _, 0, _, rfl, rfl, SqL.of hw, atI_nat (j := 0) rfl, Nat.zero_le _, fun p hpn => ?_⟩
      have sm : Same H1 (upd H1 p (.lst [])) := same_new hpn
      have hw3 := sm _ _ hw
      have hq3 := sm _ _ hq
      refine test hq hpn ⟨_, rfl, ?_⟩
      by_cases hcs : cs = []
      · subst hcs
        exact iteF (iteF (hZ _ _ ⟨rfl, [], hw3, hq3, hp, hl, fr.trans (Frm.same sm)⟩))
      · have hem : (!cs.isEmpty) = true := by cases cs with
          | nil => exact absurd rfl hcs
          | cons _ _ => rfl
        rw [hem]
        refine iteT ?_
        refine ⟨_, rfl, w, _, 0, _, rfl, rfl, SqL.of hw3, atI_nat (j := 0) rfl, _, rfl, q, _, -1, _, rfl, rfl, SqL.of hq3, at_last cs hcs, rfl, _, rfl, ite_dec (fun z => ?_) (fun z => ?_)⟩
        · refine ⟨fun σ' H' => σ' = [some (.ref w), some (.int many), none] ∧ ∃ cs' : List Int, cs'.length < cs.length ∧ H' w = some (.lst [.ref q, .int st]) ∧ H' q = some (.lst (cs'.map V.int)) ∧ (∀ c ∈ cs', 0 ≤ c) ∧ cs'.length ≤ 63 ∧ Frm w q H H', ?_, ?_⟩
          · rintro σ' H' ⟨rfl, cs', h1, h2, h3, h4, h5, h6⟩
            exact ⟨_, h1, rfl, cs', rfl, h2, h3, h4, h5, h6⟩
          · refine ⟨_, rfl, w, _, 0, _, rfl, rfl, SqL.of hw3, atI_nat (j := 0) rfl, .inl ⟨rfl, _, SqL.of hq3⟩, q, _, _, rfl, rfl, hq3, get_last cs hcs, ?_⟩
            have hpos : 0 < cs.length := List.length_pos_iff.mpr hcs
            refine ⟨rfl, cs.dropLast, by rw [List.length_dropLast]; omega, ?_, ?_, fun c hc => hp _ (List.dropLast_subset _ hc), by rw [List.length_dropLast]; omega, (fr.trans (Frm.same sm)).q⟩
            · rw [upd_ne nwq]; exact hw3
            · rw [upd_same, List.map_dropLast]
        · exact hZ _ _ ⟨rfl, cs, hw3, hq3, hp, hl, fr.trans (Frm.same sm)⟩
    · rintro σ H2 ⟨rfl, cs, hw2, hq2, hp, hl, fr2⟩
      have nwq : w ≠ q := fun e => by
        rw [e, hq2] at hw2
        cases cs with
        | nil => simp at hw2
        | cons c r => simp at hw2
      refine ⟨_, rfl, w, _, 0, _, rfl, rfl, SqL.of hw2, atI_nat (j := 0) rfl, Nat.zero_le _, fun p hpn => ?_⟩
      have sm3 : Same H2 (upd H2 p (.lst [])) := same_new hpn
      have hw3 := sm3 _ _ hw2
      have hq3 := sm3 _ _ hq2
      have fr3 := fr2.trans (Frm.same (w := w) (q := q) sm3)
      refine test hq2 hpn ⟨_, rfl, ?_⟩
      by_cases hcs : cs = []
      · subst hcs
        refine iteF ?_
        refine ⟨_, rfl, w, _, 1, _, rfl, rfl, SqL.of hw3, atI_nat (j := 1) rfl, _, _, rfl, rfl, .inl ⟨by omega, by omega⟩, _, _, rfl, rfl, .inl ⟨_, rfl, ?_⟩⟩
        refine ⟨_, _, rfl, rfl, (by show (0 : Int) < 2147483647; decide), ?_⟩
        refine ⟨_, rfl, w, _, 1, 1, rfl, rfl, hw3, rfl, ?_⟩
        refine ⟨_, rfl, w, _, 1, _, rfl, rfl, SqL.of upd_same, atI_nat (j := 1) rfl, _, _, rfl, rfl, ⟨by decide, by decide⟩, .inl ⟨_, rfl, _, rfl, _, _, rfl, rfl, m0, ?_⟩⟩
        refine k _ _ (Int.emod_nonneg _ (by omega)) (Int.emod_lt_of_pos _ m0) fr3.w ⟨[], _, upd_same, ?_, by simp, by simp, Int.emod_nonneg _ (by omega), Int.emod_lt_of_pos _ (by decide)⟩
        rw [upd_ne nwq.symm]
        exact hq3
      · have hne := hcs
        have hem : (!cs.isEmpty) = true := by cases cs with
          | nil => exact absurd rfl hcs
          | cons _ _ => rfl
        rw [hem]
        refine iteT ?_
        refine ⟨_, rfl, w, _, 0, _, rfl, rfl, SqL.of hw3, atI_nat (j := 0) rfl, .inl ⟨rfl, _, SqL.of hq3⟩, q, _, _, rfl, rfl, hq3, get_last cs hne, ?_⟩
        have hw4 : upd (upd H2 p (.lst [])) q (.lst (cs.map V.int).dropLast) w = some (.lst [.ref q, .int st]) := by rw [upd_ne nwq]; exact hw3
        refine ⟨_, rfl, w, _, 0, _, rfl, rfl, SqL.of hw4, atI_nat (j := 0) rfl, .inl ⟨rfl, _, SqL.of upd_same⟩, _, rfl, _, rfl, _, _, rfl, rfl, ⟨by omega, by omega⟩, q, _, _, rfl, rfl, upd_same, ?_, ?_⟩
        · rw [List.length_dropLast, List.length_map]
          exact Nat.lt_of_le_of_lt (Nat.le_trans (Nat.sub_le _ _) hl) (by decide)
        · refine ⟨_, rfl, .inl ⟨_, rfl, _, rfl, _, _, rfl, rfl, m0, ?_⟩⟩
          have hc0 : 0 ≤ cs.getLast hne := hp _ (List.getLast_mem hne)
          refine k _ _ (Int.emod_nonneg _ (by omega)) (Int.emod_lt_of_pos _ m0) (fr3.q.q) ⟨cs.dropLast ++ [(cs.getLast hne).fdiv many], st, ?_, ?_, ?_, ?_, hs1, hs2⟩
          · rw [upd_ne nwq]; exact hw4
          · rw [upd_same, List.map_append, List.map_dropLast]; rfl
          · intro x hx
            rcases List.mem_append.mp hx with hx | hx
            · exact hp _ (List.dropLast_subset _ hx)
            · rw [List.mem_singleton.mp hx, Int.fdiv_eq_ediv_of_nonneg _ (by omega)]
              exact Int.ediv_nonneg hc0 (by omega)
          · rw [List.length_append, List.length_dropLast, List.length_singleton]
            have : 0 < cs.length := List.length_pos_iff.mpr hne
            omega
end
theorem mem_ints {ns : List Int} {y : V} {i : Nat} (h : (ns.map V.int)[i]? = some y) : ∃ n, y = V.int n ∧ ns[i]? = some n := by
  rw [List.getElem?_map] at h
  cases e : ns[i]? with
  | none => rw [e] at h; cases h
  | some n => rw [e] at h; exact ⟨n, (Option.some.inj h).symm, rfl⟩
section
variable {P : Program} {w : World} {K : PySem.W.Frag} {mg : Str → Option Value} {base : Heap}
def sp_pick : Sp := fun vs H Q _ => ∃ (w q s : Addr) (xs : List V), vs = [.ref w, .ref s] ∧ HeapAt H w q ∧ H s = some (.lst xs) ∧ s ≠ w ∧ s ≠ q ∧ 0 < xs.length ∧ xs.length < 1000000 ∧ ∀ v H', v ∈ xs → Frm w q H H' → HeapAt H' w q → Q v H'
theorem ok_pick {f : Addr} {fd : FuncData} (F : Fun K "_law_pick" "_law_pick" s__law_pick f fd) (T : Txt K mg) (D__law_draw : Df P w K mg base 1 "_law_draw" ["heap", "many"] sp_draw) : FnOk P w K mg base CX0 2 f fd ["heap", "some"] sp_pick := by
  refine F.ok sc__law_pick (fun vs H Q E h => ?_) (fun cdv A outer s H vs Q E hr h => ?_)
  · obtain ⟨_, _, _, _, rfl, _⟩ := h
    rfl
  · obtain ⟨w, q, s, xs, rfl, hh, hs, n1, n2, l0, l1, k⟩ := h
    refine ⟨_, (pss_one (ps_ret (pe_ix ix_list (pv 1) (pe_call D__law_draw.ok (hr.mono (by first | decide | omega)) (by rfl) D__law_draw.m D__law_draw.kp D__law_draw.b .nil pass0 (pa_cons (pv 0) (pa_cons (pe_callB call_len_seq (by rfl) T.len PySem.boot_len (pa_cons (pv 1) pa_nil)) pa_nil))) (fun _ _ => rfl)))), ?_⟩
    refine ⟨_, rfl, _, rfl, _, rfl, s, _, rfl, .inl (SqL.of hs), w, q, _, rfl, hh, by omega, by omega, fun r H' r0 r1 fr hh' => ?_⟩
    have e : r = ((r.toNat : Nat) : Int) := (Int.toNat_of_nonneg r0).symm
    have hlt : r.toNat < xs.length := by omega
    refine ⟨s, xs, r, xs[r.toNat], rfl, rfl, SqL.of (fr s _ n1 n2 hs), ?_, k _ _ (List.getElem_mem hlt) fr hh'⟩
    exact at_of e (List.getElem?_eq_getElem hlt)
def sp_heap (K : PySem.W.Frag) : Sp := fun vs H Q _ => ∃ (a : Addr) (ns : List Int), vs = [.ref a] ∧ SqL K H a (ns.map V.int) ∧ ns.length ≤ 63 ∧ ∀ p q H', H p = none → H q = none → Same H H' → HeapAt H' p q → Q (.ref p) H'
theorem ok_heap {f : Addr} {fd : FuncData} (F : Fun K "_law_heap" "_law_heap" s__law_heap f fd) (T : Txt K mg) : FnOk P w K mg base CX0 1 f fd ["script"] (sp_heap K) := by
  refine F.ok sc__law_heap (fun vs H Q E h => ?_) (fun cdv A outer s H vs Q E hr h => ?_)
  · obtain ⟨_, _, rfl, _⟩ := h
    rfl
  · obtain ⟨a, ns, rfl, hS, hl, k⟩ := h
    refine ⟨_, (pss_cons (ps_par (i := 1) (j := 2) rfl sc__law_heap.nd rfl rfl (by decide) rfl rfl (pa_cons (pe_lc (own := [("cell", 3)]) (by rfl) sc__law_heap.nd (pi_list (pe_slice sl_list (pv 0) po_none (po_some pe_int))) (blkOk_by (own := [("cell", 3)]) (N := N__law_heap) (sc := defScope s__law_heap) (by decide +kernel)) (fun _ _ _ _ _ => (pg_name (i := 3) sc__law_heap.nd rfl (by first | exact Or.inl rfl | exact Or.inr rfl))) (fun _ _ _ _ _ => pts_nil) (fun _ _ _ _ _ => (pe_op op_add (pe_op op_mul pe_int (pe_callB call_abs (by rfl) T.abs (by decide +kernel) (pa_cons (pv 3) pa_nil))) (pe_callTy call_int1 (by rfl) T.int (by decide +kernel) (pa_cons (pe_cmpR op_lt (pv 3) pe_int (nomark _)) pa_nil))))) (pa_cons pe_int pa_nil)) (by rfl))
  (pss_cons (ps_for PassesOwn.never rfl (pi_list (pv 1)) (pg_name (i := 3) sc__law_heap.nd rfl (by first | exact Or.inl rfl | exact Or.inr rfl))
  (pss_one (ps_set (i := 2) sc__law_heap.nd rfl (by first | exact Or.inl rfl | exact Or.inr rfl) (pe_op op_mod (pe_callTy call_int1 (by rfl) T.int (by decide +kernel) (pa_cons (pe_op op_add (pe_op op_add (pe_op op_mul (pv 2) pe_int) (pe_op op_mod (pe_callTy call_int1 (by rfl) T.int (by decide +kernel) (pa_cons (pv 3) pa_nil)) pe_int)) pe_int) pa_nil)) pe_int))))
  (pss_one (ps_ret (pe_lst (pa_cons (pe_revL (pe_lc (own := [("cell", 3)]) (by rfl) sc__law_heap.nd (pi_list (pv 1)) (blkOk_by (own := [("cell", 3)]) (N := N__law_heap) (sc := defScope s__law_heap) (by decide +kernel)) (fun _ _ _ _ _ => (pg_name (i := 3) sc__law_heap.nd rfl (by first | exact Or.inl rfl | exact Or.inr rfl))) (fun _ _ _ _ _ => (pts_one (pt_cmpR op_ge (pv 3) (pe_op op_pow pe_int pe_int) (nomark _)))) (fun _ _ _ _ _ => (pv 3)))) (pa_cons (pv 2) pa_nil))))))), ?_⟩
    refine ⟨_, rfl, 60, rfl, a, _, rfl, hS, fun p hp => ?_⟩
    have s1 : Same H (upd H p (.lst (cutV (ns.map V.int) none (some 60)))) := same_new hp
    have hcut : ∃ ms : List Int, cutV (ns.map V.int) none (some 60) = ms.map V.int ∧ ms.length ≤ 63 := by
      refine ⟨(ns.drop (HT.sIx (ns.map V.int).length 0 none)).take (HT.sIx (ns.map V.int).length (ns.map V.int).length (some 60) - HT.sIx (ns.map V.int).length 0 none), ?_, ?_⟩
      · unfold cutV
        rw [List.map_take, List.map_drop]
      · rw [List.length_take, List.length_drop]
        omega
    obtain ⟨ms, ems, hms⟩ := hcut
    rw [ems] at s1 ⊢
    refine ⟨p, rfl, ⟨_, SqL.of upd_same⟩, fun D hD => ?_⟩
    refine lc_same walk_list (by rw [List.length_map]; omega) hD ErI (fun _ _ _ _ _ _ h => h) (fun _ _ _ _ _ h => h) (fun i l => l.length ≤ i ∧ ∀ c ∈ l, 0 ≤ c) ⟨Nat.le_refl _, by simp⟩ (fun H2 sm => SqL.of (sm _ _ upd_same)) ?_ ?_
    · rintro i x H2 H3 l hi sm - ⟨hl1, hl2⟩ ⟨rfl, hx⟩ A B hA hB
      obtain ⟨c, rfl, _⟩ := mem_ints hx
      refine ⟨rfl, t_yes ?_⟩
      refine ⟨_, rfl, _, rfl, _, _, rfl, rfl, .inl ⟨by decide, by decide⟩, ?_⟩
      refine ⟨_, rfl, _, _, rfl, rfl, .inr ⟨_, rfl, ?_⟩⟩
      refine ⟨_, _, rfl, rfl, ?_⟩
      refine hA _ _ _ (Same.refl _) rfl ⟨by rw [List.length_append]; exact Nat.succ_le_succ hl1, fun z hz => ?_⟩
      rcases List.mem_append.mp hz with hz | hz
      · exact hl2 _ hz
      · rw [List.mem_singleton.mp hz]
        split <;> split <;> omega
    · rintro H2 us l sm hD2 hE ⟨hl1, hl2⟩
      have e := hE.ints
      subst e
      rw [List.length_map] at hl1
      refine ⟨_, _, rfl, ?_⟩
      refine ⟨_, rfl, D, rfl, ⟨_, SqL.of hD2⟩, for_list (xs := l.map V.int) (fun i σ H' => ∃ st x, σ = [some (.ref a), some (.ref D), some (.int st), x] ∧ 0 ≤ st ∧ st < 2147483647 ∧ H' = H2) ⟨16326, none, rfl, by decide, by decide, rfl⟩ (fun i σ H' _ ⟨_, _, _, _, _, e⟩ => by rw [e]; exact SqL.of hD2) ?_ ?_⟩
      · rintro i y σ H' hy ⟨st, x, rfl, h0, h1, rfl⟩
        obtain ⟨c, rfl, _⟩ := mem_ints hy
        refine ⟨_, rfl, _, _, rfl, rfl, .inl ⟨by omega, by omega⟩, ?_⟩
        refine ⟨_, rfl, .inl ⟨_, rfl, _, _, rfl, rfl, (by show (0 : Int) < 2147483563; decide), ?_⟩⟩
        refine ⟨_, _, rfl, rfl, _, _, rfl, rfl, .inl ⟨_, rfl, _, _, rfl, rfl, (by show (0 : Int) < 2147483647; decide), ?_⟩⟩
        exact ⟨_, _, rfl, Int.emod_nonneg _ (by decide), Int.emod_lt_of_pos _ (by decide), rfl⟩
      · rintro σ H' ⟨st, x, rfl, h0, h1, rfl⟩
        refine ⟨_, rfl, D, rfl, ⟨_, SqL.of hD2⟩, fun D2 hDn => ?_⟩
        refine lc_same (walk_list (xs := l.map V.int)) (by rw [List.length_map]; omega) hDn ErI (fun _ _ _ _ _ _ h => h) (fun _ _ _ _ _ h => h) (fun i m => m.length ≤ i ∧ ∀ c ∈ m, 0 ≤ c) ⟨Nat.le_refl _, by simp⟩ (fun H4 sm4 => SqL.of (sm4 _ _ hD2)) ?_ ?_
        · rintro i x4 H4 H5 m hi sm4 - ⟨hm1, hm2⟩ ⟨rfl, hx⟩ A B hA hB
          obtain ⟨c, rfl, _⟩ := mem_ints hx
          refine ⟨rfl, ?_⟩
          refine ⟨_, rfl, _, _, rfl, rfl, ⟨by decide, by decide, by decide⟩, _, _, rfl, rfl, _, rfl, ite_dec (fun hc => ?_) (fun hc => ?_)⟩
          · refine ⟨_, rfl, hA _ _ _ (Same.refl _) rfl ⟨by rw [List.length_append]; exact Nat.succ_le_succ hm1, fun z hz => ?_⟩⟩
            rcases List.mem_append.mp hz with hz | hz
            · exact hm2 _ hz
            · rw [List.mem_singleton.mp hz]
              have : (0 : Int) ≤ 10 ^ (18 : Int).toNat := by decide
              omega
          · exact hB _ (Same.refl _) ⟨Nat.le_succ_of_le hm1, hm2⟩
        · rintro H4 us m sm4 hD4 hE4 ⟨hm1, hm2⟩
          have e4 := hE4.ints
          subst e4
          rw [List.length_map] at hm1
          refine ⟨D2, _, rfl, SqL.of hD4, fun r hr4 => ?_⟩
          rw [← List.map_reverse]
          have s5 := same_new (o := .lst (m.reverse.map V.int)) hr4
          refine ⟨_, rfl, (by show 2 ≤ sizeLine; decide), fun t ht => ?_⟩
          have s6 := same_new (o := .lst [.ref r, .int st]) ht
          have stot : Same H H4 := (s1.trans sm).trans sm4
          have ntr : t ≠ r := fun e => by rw [e, upd_same] at ht; cases ht
          refine k t r _ ((stot.trans s5).free ht) (stot.free hr4) ((stot.trans s5).trans s6) ⟨m.reverse, st, upd_same, ?_, fun c hc => hm2 c (List.mem_reverse.mp hc), by rw [List.length_reverse]; omega, h0, h1⟩
          rw [upd_ne ntr.symm, upd_same]
end
end K26

namespace K26
open PySem PySem.Spec PyProof.Rows L2 Hl
/-- bools -/
def ErB : Hp → V → Bool → Prop := fun _ y a => y = .bl a
theorem ers_bls {H : Hp} : ∀ {vs : List V} {l : List Bool}, Ers ErB H vs l → vs = l.map V.bl
  | _, _, .nil => rfl
  | _, _, .cons h t => by rw [List.map_cons, ← ers_bls t, show _ = V.bl _ from h]
section
variable {P : Program} {w : World} {K : PySem.W.Frag} {mg : Str → Option Value} {base : Heap}
theorem ok_like {n : Nat} {C : PyData → Prop} (T : Txt K mg) (D__law_like : Df P w K mg base n "_law_like" ["told", "due"] (spLike K C)) (F : Fun K "_law_like" "_law_like" s__law_like D__law_like.f D__law_like.fd) :
    FnOk P w K mg base CX0 (n + 1) D__law_like.f D__law_like.fd ["told", "due"] (spLike K (Sc C)) := by
  refine F.ok sc__law_like (fun vs H Q E h => ?_) (fun cdv A outer s H vs Q E hr h => ?_)
  · obtain ⟨_, _, _, rfl, _⟩ := h
    rfl
  · obtain ⟨v, u, d, rfl, hv, hu, hd, q⟩ := h
    refine ⟨_, (pss_cons (ps_if (pt_val (pe_callB call_isiS (by rfl) T.isinstance (by decide +kernel) (pa_cons (pv 1) (pa_cons (pe_ty "tuple" (by rfl) T.tuple) pa_nil))))
  (pss_one (ps_ret (pe_and (pe_callB call_isiS (by rfl) T.isinstance (by decide +kernel) (pa_cons (pv 0) (pa_cons (pe_ty "tuple" (by rfl) T.tuple) pa_nil))) (pe_and (pe_cmpR op_eq (pe_callB call_len_seq (by rfl) T.len PySem.boot_len (pa_cons (pv 0) pa_nil)) (pe_callB call_len_seq (by rfl) T.len PySem.boot_len (pa_cons (pv 1) pa_nil)) (nomark _)) (pe_one (pe_callB (cr_all rfl) (by rfl) T.all (by decide +kernel) (pa_cons (pe_lc (own := [("one", 2), ("other", 3)]) (by rfl) sc__law_like.nd (RZ.pi_zipA (by rfl) T.zip (pa_cons (pv 0) (pa_cons (pv 1) pa_nil))) (blkOk_by (own := [("one", 2), ("other", 3)]) (N := N__law_like) (sc := defScope s__law_like) (by decide +kernel)) (fun _ _ _ _ _ => (kpg_tup (K := K) (n := 2) rfl rfl (pgs_cons (pg_name (i := 2) sc__law_like.nd rfl (by first | exact Or.inl rfl | exact Or.inr rfl)) (pgs_cons (pg_name (i := 3) sc__law_like.nd rfl (by first | exact Or.inl rfl | exact Or.inr rfl)) pgs_nil)))) (fun _ _ _ _ _ => pts_nil) (fun _ _ _ _ _ => (pe_call D__law_like.ok (hr.mono (by first | decide | omega)) (by rfl) D__law_like.m D__law_like.kp D__law_like.b .nil pass0 (pa_cons (pv 2) (pa_cons (pv 3) pa_nil))))) pa_nil)))))))
  pss_nil)
  (pss_cons (ps_if (pt_cmpR op_isN (pv 1) pe_non (nomark _))
  (pss_one (ps_ret (pe_cmpR op_isN (pv 0) pe_non (nomark _))))
  pss_nil)
  (pss_cons (ps_if (pt_val (pe_callB call_isiS (by rfl) T.isinstance (by decide +kernel) (pa_cons (pv 1) (pa_cons (pe_ty "bool" (by rfl) T.bool) pa_nil))))
  (pss_one (ps_ret (pe_ifExp (pt_val (pv 1)) (pe_cmpR op_isBl (pv 0) pe_bl (nomark _)) (pe_cmpR op_isBl (pv 0) pe_bl (nomark _)))))
  pss_nil)
  (pss_cons (ps_if (pt_val (pe_callB call_isiS (by rfl) T.isinstance (by decide +kernel) (pa_cons (pv 1) (pa_cons (pe_ty "int" (by rfl) T.int) pa_nil))))
  (pss_one (ps_ret (pe_and (pe_callB call_isiS (by rfl) T.isinstance (by decide +kernel) (pa_cons (pv 0) (pa_cons (pe_ty "int" (by rfl) T.int) pa_nil))) (pe_and (pe_not (pe_callB call_isiS (by rfl) T.isinstance (by decide +kernel) (pa_cons (pv 0) (pa_cons (pe_ty "bool" (by rfl) T.bool) pa_nil)))) (pe_one (pe_cmpR op_eq (pv 0) (pv 1) (nomark _)))))))
  pss_nil)
  (pss_one (ps_ret (pe_and (pe_callB call_isiS (by rfl) T.isinstance (by decide +kernel) (pa_cons (pv 0) (pa_cons (pe_ty "str" (by rfl) T.str) pa_nil))) (pe_and (pe_callB call_isiS (by rfl) T.isinstance (by decide +kernel) (pa_cons (pv 1) (pa_cons (pe_ty "str" (by rfl) T.str) pa_nil))) (pe_one (pe_cmpR op_eq (pv 0) (pv 1) (nomark _))))))))))), ?_⟩
    rcases hd with rfl | ⟨b, rfl⟩ | ⟨i, rfl⟩ | ⟨ds, rfl, hl, hC⟩
    · cases hv
      cases hu
      refine ⟨_, rfl, isi_of (.base .non) (b := false) (by decide +kernel) ⟨_, rfl, iteF ?_⟩⟩
      refine ⟨_, rfl, rfl, _, rfl, iteT ?_⟩
      exact ⟨_, rfl, rfl, q _ (Same.refl _)⟩
    · cases hv
      cases hu
      refine ⟨_, rfl, isi_of (.base (.bl b)) (b := false) (by decide +kernel) ⟨_, rfl, iteF ?_⟩⟩
      refine ⟨_, rfl, rfl, _, rfl, iteF ?_⟩
      refine ⟨_, rfl, isi_of (.base (.bl b)) (b := true) (by decide +kernel) ⟨_, rfl, iteT ?_⟩⟩
      cases b with
      | true => exact ⟨_, rfl, _, rfl, iteT ⟨_, rfl, _, _, rfl, rfl, q _ (Same.refl _)⟩⟩
      | false => exact ⟨_, rfl, _, rfl, iteF ⟨_, rfl, _, _, rfl, rfl, q _ (Same.refl _)⟩⟩
    · cases hv
      cases hu
      refine ⟨_, rfl, isi_of (.base (.int i)) (b := false) (by decide +kernel) ⟨_, rfl, iteF ?_⟩⟩
      refine ⟨_, rfl, rfl, _, rfl, iteF ?_⟩
      refine ⟨_, rfl, isi_intb i ⟨_, rfl, iteF ?_⟩⟩
      refine ⟨_, rfl, isi_int i ⟨_, rfl, iteT ?_⟩⟩
      refine ⟨_, rfl, isi_int i ⟨_, rfl, iteT ⟨_, rfl, isi_intb i ⟨_, rfl, _, rfl, iteT ⟨_, rfl, _, rfl, rfl, ?_⟩⟩⟩⟩⟩
      rw [decide_eq_true rfl]
      exact q _ (Same.refl _)
    · cases hv with
      | tup ha da =>
      cases hu with
      | tup hb db =>
      rename_i a xs b ys
      have la := dps_len da
      have lb := dps_len db
      refine ⟨_, rfl, isi_of (ty_tup hb) (b := true) (by decide +kernel) ⟨_, rfl, iteT ?_⟩⟩
      refine ⟨_, rfl, isi_of (ty_tup ha) (b := true) (by decide +kernel) ⟨_, rfl, iteT ?_⟩⟩
      refine ⟨_, rfl, a, _, rfl, .inr ha, _, rfl, b, _, rfl, .inr hb, rfl, _, rfl, ite_dec (fun _ => ?_) (fun z => (z (by rw [la, lb])).elim)⟩
      refine ⟨_, rfl, _, rfl, a, b, _, _, rfl, .inr ⟨ha, hb, fun D hD => ?_⟩⟩
      refine lc_same (walk_zipT (n := ds.length) la lb) (by omega) hD ErB (fun _ _ _ _ _ _ h => h) (fun _ _ _ _ _ h => h) (fun i l => l.all id = true) rfl (fun H2 sm => ⟨seqT sm ha, seqT sm hb⟩) ?_ ?_
      · rintro i x H2 H3 l hi sm - hl ⟨T', y1, y2, rfl, hT, rfl, e1, e2⟩ A B hA hB
        obtain ⟨d1, g1, h1⟩ := dps_get da e1
        obtain ⟨d2, g2, h2⟩ := dps_get db e2
        obtain rfl : d1 = d2 := Option.some.inj (g1.symm.trans g2)
        have sm' := sm.trans (same_new (o := .tup [y1, y2]) hT)
        refine ⟨T', _, rfl, SqT.of upd_same, rfl, _, _, rfl, _, [], rfl, rfl, rfl, t_yes ?_⟩
        refine ⟨_, rfl, _, rfl, y1, y2, d1, rfl, dp_mono sm' h1, dp_mono sm' h2, hC _ (List.mem_of_getElem? g1), fun H4 s4 => ?_⟩
        exact hA _ _ _ ((same_new hT).trans s4) rfl (by rw [List.all_append, hl]; rfl)
      · rintro H2 us l sm hD2 hE hl
        have e := ers_bls hE
        subst e
        refine ⟨D, l, rfl, SqL.of hD2, ?_⟩
        rw [hl]
        exact q _ sm
end
end K26

namespace K26
open PySem PySem.Spec PyProof.Rows L2 Hl
theorem rg_turns {words d : Int} (h0 : 0 ≤ words) (h1 : words ≤ 1000000) (d0 : 1 ≤ d) (d1 : d ≤ 1000) : RgC 0 words d (turnsN words d) := by
  have hn : Builtin.Range.rangeSize 0 words d = (words + d - 1) / d := PyProof.Rows.rangeSize_pos d0 h0
  have b0 : 0 ≤ (words + d - 1) / d := Int.ediv_nonneg (by omega) (by omega)
  have b1 : (words + d - 1) / d ≤ words + d - 1 := Int.ediv_le_self _ (by omega)
  refine ⟨by omega, by omega, ?_, ?_⟩
  · unfold Builtin.Range.small
    rw [hn]
    generalize (words + d - 1) / d = n at *
    simp only [Builtin.Range.rangeFitsLong, Bool.and_eq_true, Bool.or_eq_true, decide_eq_true_eq, beq_iff_eq, show d > 0 by omega, if_true]
    omega
  · rw [hn]
    by_cases hw : 0 < words
    · exact (turns_pos hw (by omega)).2.symm
    · have : words = 0 := by omega
      subst this
      rw [Int.ediv_eq_zero_of_lt (by omega) (by omega)]
      rfl
/-- a and b, where what follows a no is the same twice -/
theorem and2 {c1 c2 M B : Prop} [Decidable c1] (hB : ¬ (c1 ∧ c2) → B) (hM : c1 → (¬ (c1 ∧ c2) → B) → M) : if decide c1 = true then M else B :=
  ite_dec (fun h => hM h hB) fun h => hB fun z => h z.1
/-- a triple's tuple in the heap -/
def TriAt (K : PySem.W.Frag) (H : Hp) (a : Addr) (w1 w2 g : Int) : Prop := SqT K H a [.int w1, .int w2, .int g]
section
variable {P : Program} {w : World} {K : PySem.W.Frag} {mg : Str → Option Value} {base : Heap}
def sp_Lsingle (K : PySem.W.Frag) : Sp := fun vs H Q _ => ∃ (k f s w1 w2 g : Int) (a : Addr), vs = [.int k, .int f, .int s, .ref a] ∧ TriAt K H a w1 w2 g ∧ Q (.bl (singleB k f w1 w2 g s)) H
theorem ok_Lsingle {f : Addr} {fd : FuncData} (F : Fun K "_law_single" "_law_single" s__law_single f fd) (T : Txt K mg) : FnOk P w K mg base CX0 1 f fd ["k", "f", "spread", "triple"] (sp_Lsingle K) := by
  refine F.ok sc__law_single (fun vs H Q E h => ?_) (fun cdv A outer st H vs Q E hr h => ?_)
  · obtain ⟨_, _, _, _, _, _, _, rfl, _⟩ := h
    rfl
  · obtain ⟨k, f, s, w1, w2, g, a, rfl, ha, q⟩ := h
    refine ⟨_, (pss_cons (ps_asg (pv 3) (pg_tup rfl (pgs_cons (pg_name (i := 4) sc__law_single.nd rfl (by first | exact Or.inl rfl | exact Or.inr rfl)) (pgs_cons (pg_name (i := 5) sc__law_single.nd rfl (by first | exact Or.inl rfl | exact Or.inr rfl)) (pgs_cons (pg_name (i := 6) sc__law_single.nd rfl (by first | exact Or.inl rfl | exact Or.inr rfl)) pgs_nil)))))
  (pss_one (ps_ret (pe_and (pe_cmpR op_gt (pe_op op_mul pe_int (pv 4)) (pe_op op_add (pe_op op_add (pv 0) (pv 2)) (pv 1)) (nomark _)) (pe_one (pe_or (pe_cmpR op_eq (pv 2) pe_int (nomark _)) (pe_one (pe_cmpR op_gt (pe_op op_add (pv 6) (pv 5)) (pe_op op_add (pe_op op_add (pv 0) (pv 2)) (pv 1)) (nomark _))))))))), ?_⟩
    have e : singleB k f w1 w2 g s = (decide (2 * w1 > k + s + f) && (decide (s = 0) || decide (g + w2 > k + s + f))) := by
      unfold singleB nearI farI
      rw [decide_eq_decide.mpr (show 0 < 2 * w1 - k - s - f ↔ 2 * w1 > k + s + f by omega), decide_eq_decide.mpr (show 0 < g + w2 - k - s - f ↔ g + w2 > k + s + f by omega)]
    rw [e] at q
    refine ⟨_, rfl, a, _, rfl, ha, rfl, _, _, rfl, _, _, rfl, _, [], rfl, rfl, ?_⟩
    refine ⟨_, rfl, _, _, rfl, rfl, .inl ⟨by decide, by decide⟩, _, rfl, _, rfl, _, _, rfl, rfl, _, rfl, _, _, rfl, rfl, _, _, rfl, rfl, and_rd (fun h1 => ?_) (fun h1 => ?_)⟩
    · rw [h1, Bool.true_and] at q
      refine ⟨_, rfl, rfl, _, rfl, eqz (fun z => ?_) (fun z => ?_)⟩
      · rw [decide_eq_true z] at q
        exact q
      · rw [show decide (s = 0) = false from decide_eq_false z, Bool.false_or] at q
        exact ⟨_, rfl, _, rfl, _, _, rfl, rfl, _, rfl, _, rfl, _, _, rfl, rfl, _, rfl, _, _, rfl, rfl, _, _, rfl, rfl, q⟩
    · rw [h1, Bool.false_and] at q
      exact q
def sp_Llasting (K : PySem.W.Frag) : Sp := fun vs H Q _ => ∃ (k f m s w1 w2 g : Int) (a : Addr), vs = [.int k, .int f, .int m, .int s, .ref a] ∧ TriAt K H a w1 w2 g ∧ 0 ≤ s ∧ 1 ≤ m ∧ g ≤ k ∧ Q (.bl (lastB k f m w2 g s)) H
theorem last_eq {k f m s w2 g : Int} (h0 : 0 ≤ s) (h1 : 1 ≤ m) (h2 : g ≤ k) : lastB k f m w2 g s = (decide (w2 ≥ f + m + s) && (decide (s = 0) || decide (g - (k - mx 0 (w2 - f - s)) ≥ m))) := by
  unfold lastB farI
  have c := mx_cases 0 (w2 - f - s)
  by_cases hs : s = 0
  · rw [if_pos hs, decide_eq_true hs, Bool.true_or, Bool.and_true]
    exact decide_eq_decide.mpr (by omega)
  · rw [if_neg hs, show decide (s = 0) = false from decide_eq_false hs, Bool.false_or, ← Bool.decide_and]
    exact decide_eq_decide.mpr (by omega)
theorem ok_Llasting {f : Addr} {fd : FuncData} (F : Fun K "_law_lasting" "_law_lasting" s__law_lasting f fd) (T : Txt K mg) : FnOk P w K mg base CX0 1 f fd ["k", "f", "m", "spread", "triple"] (sp_Llasting K) := by
  refine F.ok sc__law_lasting (fun vs H Q E h => ?_) (fun cdv A outer st H vs Q E hr h => ?_)
  · obtain ⟨_, _, _, _, _, _, _, _, rfl, _⟩ := h
    rfl
  · obtain ⟨k, f, m, s, w1, w2, g, a, rfl, ha, h0, h1, h2, q⟩ := h
    refine ⟨_, (pss_cons (ps_asg (pv 4) (pg_tup rfl (pgs_cons (pg_name (i := 5) sc__law_lasting.nd rfl (by first | exact Or.inl rfl | exact Or.inr rfl)) (pgs_cons (pg_name (i := 6) sc__law_lasting.nd rfl (by first | exact Or.inl rfl | exact Or.inr rfl)) (pgs_cons (pg_name (i := 7) sc__law_lasting.nd rfl (by first | exact Or.inl rfl | exact Or.inr rfl)) pgs_nil)))))
  (pss_cons (ps_set (i := 8) sc__law_lasting.nd rfl (by first | exact Or.inl rfl | exact Or.inr rfl) (pe_op op_sub (pv 0) (pe_callB (call_max2 rfl) (by rfl) T.max (by decide +kernel) (pa_cons pe_int (pa_cons (pe_op op_sub (pe_op op_sub (pv 6) (pv 1)) (pv 3)) pa_nil)))))
  (pss_one (ps_ret (pe_and (pe_cmpR op_ge (pv 6) (pe_op op_add (pe_op op_add (pv 1) (pv 2)) (pv 3)) (nomark _)) (pe_one (pe_or (pe_cmpR op_eq (pv 3) pe_int (nomark _)) (pe_one (pe_cmpR op_ge (pe_op op_sub (pv 7) (pv 8)) (pv 2) (nomark _)))))))))), ?_⟩
    rw [last_eq h0 h1 h2] at q
    refine ⟨_, rfl, a, _, rfl, ha, rfl, _, _, rfl, _, _, rfl, _, [], rfl, rfl, ?_⟩
    refine ⟨_, rfl, _, rfl, _, rfl, _, _, rfl, rfl, _, rfl, _, _, rfl, rfl, _, _, rfl, _, _, rfl, rfl, ?_⟩
    refine ⟨_, rfl, _, rfl, _, rfl, _, _, rfl, rfl, _, rfl, _, _, rfl, rfl, _, _, rfl, rfl, and_rd (fun h1 => ?_) (fun h1 => ?_)⟩
    · rw [h1, Bool.true_and] at q
      refine ⟨_, rfl, rfl, _, rfl, eqz (fun z => ?_) (fun z => ?_)⟩
      · rw [decide_eq_true z] at q
        exact q
      · rw [show decide (s = 0) = false from decide_eq_false z, Bool.false_or] at q
        exact ⟨_, rfl, _, rfl, _, _, rfl, rfl, _, rfl, _, _, rfl, rfl, q⟩
    · rw [h1, Bool.false_and] at q
      exact q
def sp_Lsafe (K : PySem.W.Frag) : Sp := fun vs H Q _ => ∃ (k f m s w1 w2 g : Int) (a : Addr), vs = [.int k, .int f, .int m, .int s, .ref a] ∧ TriAt K H a w1 w2 g ∧ 0 ≤ s ∧ 1 ≤ m ∧ g ≤ k ∧ Q (.bl (safeB k f m w1 w2 g s)) H
theorem ok_Lsafe {f : Addr} {fd : FuncData} (F : Fun K "_law_safe" "_law_safe" s__law_safe f fd) (T : Txt K mg) (D__law_single : Df P w K mg base 1 "_law_single" ["k", "f", "spread", "triple"] (sp_Lsingle K)) (D__law_lasting : Df P w K mg base 1 "_law_lasting" ["k", "f", "m", "spread", "triple"] (sp_Llasting K)) :
    FnOk P w K mg base CX0 2 f fd ["k", "f", "m", "spread", "triple"] (sp_Lsafe K) := by
  refine F.ok sc__law_safe (fun vs H Q E h => ?_) (fun cdv A outer st H vs Q E hr h => ?_)
  · obtain ⟨_, _, _, _, _, _, _, _, rfl, _⟩ := h
    rfl
  · obtain ⟨k, f, m, s, w1, w2, g, a, rfl, ha, h0, h1, h2, q⟩ := h
    refine ⟨_, (pss_one (ps_ret (pe_and (pe_call D__law_single.ok (hr.mono (by first | decide | omega)) (by rfl) D__law_single.m D__law_single.kp D__law_single.b .nil pass0 (pa_cons (pv 0) (pa_cons (pv 1) (pa_cons (pv 3) (pa_cons (pv 4) pa_nil))))) (pe_one (pe_call D__law_lasting.ok (hr.mono (by first | decide | omega)) (by rfl) D__law_lasting.m D__law_lasting.kp D__law_lasting.b .nil pass0 (pa_cons (pv 0) (pa_cons (pv 1) (pa_cons (pv 2) (pa_cons (pv 3) (pa_cons (pv 4) pa_nil)))))))))), ?_⟩
    unfold safeB at q
    refine ⟨_, rfl, _, rfl, _, rfl, _, rfl, k, f, s, w1, w2, g, a, rfl, ha, and_rd (fun h => ?_) (fun h => ?_)⟩
    · rw [h, Bool.true_and] at q
      exact ⟨_, rfl, _, rfl, _, rfl, _, rfl, _, rfl, k, f, m, s, w1, w2, g, a, rfl, ha, h0, h1, h2, q⟩
    · rw [h, Bool.false_and] at q
      exact q
def sp_Ltwice (K : PySem.W.Frag) : Sp := fun vs H Q _ => ∃ (k f s d w1 w2 g : Int) (a : Addr), vs = [.int k, .int f, .int s, .int d, .ref a] ∧ TriAt K H a w1 w2 g ∧ (1 ≤ k ∧ k ≤ 12) ∧ 0 ≤ f ∧ (0 ≤ s ∧ s ≤ 12) ∧ w1 ≤ k ∧ w2 ≤ k ∧ g ≤ k ∧ Q (optV (twiceO k f d w1 w2 g s)) H
theorem ok_Ltwice {f : Addr} {fd : FuncData} (F : Fun K "_law_twice" "_law_twice" s__law_twice f fd) (T : Txt K mg) : FnOk P w K mg base CX0 1 f fd ["k", "f", "spread", "d", "triple"] (sp_Ltwice K) := by
  refine F.ok sc__law_twice (fun vs H Q E h => ?_) (fun cdv A outer st H vs Q E hr h => ?_)
  · obtain ⟨_, _, _, _, _, _, _, _, rfl, _⟩ := h
    rfl
  · obtain ⟨k, f, s, d, w1, w2, g, a, rfl, ha, hk, hf, hs, b1, b2, b3, q⟩ := h
    refine ⟨_, (pss_cons (ps_asg (pv 4) (pg_tup rfl (pgs_cons (pg_name (i := 5) sc__law_twice.nd rfl (by first | exact Or.inl rfl | exact Or.inr rfl)) (pgs_cons (pg_name (i := 6) sc__law_twice.nd rfl (by first | exact Or.inl rfl | exact Or.inr rfl)) (pgs_cons (pg_name (i := 7) sc__law_twice.nd rfl (by first | exact Or.inl rfl | exact Or.inr rfl)) pgs_nil)))))
  (pss_cons (ps_if (PW.pt (pw_and (pt_cmpR op_le (pe_op op_mul pe_int (pv 5)) (pe_op op_add (pv 0) (pv 1)) (nomark _)) (pw_and1 (pt_cmpR op_le (pe_op op_mul pe_int (pv 6)) (pe_op op_add (pv 0) (pv 1)) (nomark _)))))
  (pss_one (ps_ret pe_int))
  pss_nil)
  (pss_cons (ps_if (pt_cmpR op_le (pe_op op_mul pe_int (pv 5)) (pe_op op_add (pe_op op_add (pv 0) (pv 2)) (pv 1)) (nomark _))
  (pss_one (ps_ret pe_int))
  pss_nil)
  (pss_cons (ps_set (i := 8) sc__law_twice.nd rfl (by first | exact Or.inl rfl | exact Or.inr rfl) (pe_op op_sub (pv 0) (pe_callB (call_max2 rfl) (by rfl) T.max (by decide +kernel) (pa_cons pe_int (pa_cons (pe_op op_sub (pe_op op_sub (pv 6) (pv 1)) (pv 2)) pa_nil)))))
  (pss_cons (ps_for PassesOwn.never rfl (pi_range2 (by rfl) T.range (pa_cons pe_int (pa_cons (pe_op op_add (pv 0) pe_int) pa_nil))) (pg_name (i := 9) sc__law_twice.nd rfl (by first | exact Or.inl rfl | exact Or.inr rfl))
  (pss_cons (ps_set (i := 10) sc__law_twice.nd rfl (by first | exact Or.inl rfl | exact Or.inr rfl) (pe_op op_sub (pv 0) (pe_callB (call_max3I rfl) (by rfl) T.max (by decide +kernel) (pa_cons pe_int (pa_cons (pe_op op_sub (pe_op op_sub (pv 5) (pv 1)) (pe_op op_mul (pv 9) (pv 2))) (pa_cons (pe_op op_sub (pe_op op_sub (pv 6) (pv 1)) (pe_op op_mul (pv 9) (pv 2))) pa_nil))))))
  (pss_one (ps_if (PW.pt (pw_and (pt_cmpR op_gt (pv 2) pe_int (nomark _)) (pw_and (pt_cmpR op_ge (pv 8) (pv 7) (nomark _)) (pw_and1 (pt_cmpR op_ge (pv 10) (pv 5) (nomark _))))))
  (pss_one (ps_ret (pe_op op_add (pe_op op_mul (pe_op op_sub (pv 9) pe_int) (pv 3)) pe_int)))
  pss_nil))))
  (pss_one (ps_ret pe_non))))))), ?_⟩
    refine ⟨_, rfl, a, _, rfl, ha, rfl, _, _, rfl, _, _, rfl, _, [], rfl, rfl, ?_⟩
    refine ⟨_, rfl, _, _, rfl, rfl, .inl ⟨by decide, by decide⟩, _, rfl, _, rfl, _, _, rfl, rfl, _, _, rfl, rfl, _, rfl, and2 (c2 := 2 * w2 ≤ k + f) (fun n1 => ?_) fun h1 hB => ?_⟩
    case refine_2 =>
      refine ⟨_, rfl, _, _, rfl, rfl, .inl ⟨by decide, by decide⟩, _, rfl, _, rfl, _, _, rfl, rfl, _, _, rfl, rfl, _, rfl, ite_dec (fun h2 => ?_) (fun h2 => hB fun h => h2 h.2)⟩
      unfold twiceO at q
      rw [if_pos (show 2 * mx w1 w2 ≤ k + f by unfold mx; split <;> omega)] at q
      exact q
    refine ⟨_, rfl, _, _, rfl, rfl, .inl ⟨by decide, by decide⟩, _, rfl, _, rfl, _, _, rfl, rfl, _, rfl, _, _, rfl, rfl, _, _, rfl, rfl, _, rfl, ite_dec (fun n2 => ?_) (fun n2 => ?_)⟩
    · unfold twiceO at q
      rw [if_neg (show ¬ 2 * mx w1 w2 ≤ k + f by unfold mx; split <;> omega), if_pos (show nearI k f w1 s ≤ 0 by unfold nearI; omega)] at q
      exact q
    refine ⟨_, rfl, _, rfl, _, rfl, _, _, rfl, rfl, _, rfl, _, _, rfl, rfl, _, _, rfl, _, _, rfl, rfl, ?_⟩
    refine ⟨_, rfl, _, _, rfl, rfl, 2, k + 2, rfl, ⟨by decide, by decide, by omega, by omega⟩, ?_⟩
    refine for_range (lo := 2) (n := (k + 2 - 2).toNat) (fun i σ H' => ∃ x y, σ = [some (.int k), some (.int f), some (.int s), some (.int d), some (.ref a), some (.int w1), some (.int w2), some (.int g), some (.int (k - mx 0 (w2 - f - s))), x, y] ∧ H' = H ∧
      ∀ c', 2 ≤ c' → c' < 2 + (i : Int) → 0 < s → g ≤ k - mx 0 (w2 - f - s) → ¬ w1 ≤ k - mx (mx 0 (w1 - f - c' * s)) (w2 - f - c' * s)) ⟨none, none, rfl, rfl, fun c' h1 h2 => by omega⟩ ?_ ?_
    · rintro i σ H' hi ⟨x, y, rfl, rfl, inv⟩
      have nxt : (0 < s → g ≤ k - mx 0 (w2 - f - s) → ¬ w1 ≤ k - mx (mx 0 (w1 - f - (2 + (i : Int)) * s)) (w2 - f - (2 + (i : Int)) * s)) →
          ∀ c', 2 ≤ c' → c' < 2 + ((i + 1 : Nat) : Int) → 0 < s → g ≤ k - mx 0 (w2 - f - s) → ¬ w1 ≤ k - mx (mx 0 (w1 - f - c' * s)) (w2 - f - c' * s) := fun h c' h1 h2 => by
        by_cases z : c' = 2 + (i : Int)
        · subst z; exact h
        · exact inv c' h1 (by omega)
      refine ⟨_, rfl, _, rfl, _, rfl, _, _, rfl, rfl, _, rfl, _, rfl, _, _, rfl, rfl, .inl ⟨by omega, by omega⟩, _, _, rfl, rfl, ?_⟩
      refine ⟨_, rfl, _, rfl, _, _, rfl, rfl, _, rfl, _, rfl, _, _, rfl, rfl, .inl ⟨by omega, by omega⟩, _, _, rfl, rfl, _, _, _, rfl, _, _, rfl, rfl, ?_⟩
      refine ⟨_, rfl, _, _, rfl, rfl, _, rfl, and2 (c2 := g ≤ k - mx 0 (w2 - f - s) ∧ w1 ≤ k - mx (mx 0 (w1 - f - (2 + (i : Int)) * s)) (w2 - f - (2 + (i : Int)) * s)) (fun n => ?_) fun h1 hB => ?_⟩
      case refine_1 => exact ⟨_, _, rfl, rfl, nxt fun a b c => n ⟨a, b, c⟩⟩
      refine ⟨_, rfl, _, rfl, _, _, rfl, rfl, _, rfl, ite_dec (fun h2 => ?_) (fun h2 => hB fun h => h2 h.2.1)⟩
      refine ⟨_, rfl, _, rfl, _, _, rfl, rfl, _, rfl, ite_dec (fun h3 => ?_) (fun h3 => hB fun h => h3 h.2.2)⟩
      refine ⟨_, rfl, _, _, rfl, rfl, _, rfl, _, _, rfl, rfl, .inl ⟨by omega, by omega⟩, _, _, rfl, rfl, ?_⟩
      rw [twice_some hs b3 hf b1 b2 n1 n2 h1 h2 (c := 2 + (i : Int)) (by omega) h3 (fun c' a b => inv c' a b h1 h2)] at q
      exact q
    · rintro σ H' ⟨x, y, rfl, rfl, inv⟩
      rw [twice_none hs hk b3 hf b1 b2 n1 n2 (fun c' a b => inv c' a (by omega))] at q
      exact q
end
end K26

namespace K26
open PySem PySem.Spec PyProof.Rows L2 Hl
/-- a or b, where what follows a yes is the same twice -/
theorem or2 {c1 c2 M A : Prop} [Decidable c1] (hA : c1 ∨ c2 → A) (hM : ¬ c1 → (c1 ∨ c2 → A) → M) : if decide c1 = true then A else M :=
  ite_dec (fun h => hA (.inl h)) fun h => hM h hA
theorem i0 {i : Nat} : V.int (i : Int) = V.int 0 ↔ i = 0 := ⟨fun z => by have := V.int.inj z; omega, fun z => by rw [z]; rfl⟩
section
variable {P : Program} {w : World} {K : PySem.W.Frag} {mg : Str → Option Value} {base : Heap}
def sp_Lleft (K : PySem.W.Frag) : Sp := fun vs H Q _ => ∃ (k f m s d w1 w2 g words : Int) (a : Addr), vs = [.int k, .int f, .int m, .int s, .int d, .ref a, .int words] ∧ TriAt K H a w1 w2 g ∧ 0 ≤ f ∧ 1 ≤ m ∧ (0 ≤ s ∧ s ≤ 12) ∧ (1 ≤ d ∧ d ≤ 200) ∧ w2 ≤ 12 ∧ g ≤ k ∧ (0 ≤ words ∧ words ≤ 100000) ∧ Q (.int (leftI k f d m w2 g s words)) H
theorem ok_Lleft {f : Addr} {fd : FuncData} (F : Fun K "_law_left" "_law_left" s__law_left f fd) (T : Txt K mg) : FnOk P w K mg base CX0 1 f fd ["k", "f", "m", "spread", "d", "triple", "words"] (sp_Lleft K) := by
  refine F.ok sc__law_left (fun vs H Q E h => ?_) (fun cdv A outer st H vs Q E hr h => ?_)
  · obtain ⟨_, _, _, _, _, _, _, _, _, _, rfl, _⟩ := h
    rfl
  · obtain ⟨k, f, m, s, d, w1, w2, g, words, a, rfl, ha, hf, hm, hs, hd, hw, hg, hwo, q⟩ := h
    refine ⟨_, (pss_cons (ps_asg (pv 5) (pg_tup rfl (pgs_cons (pg_name (i := 7) sc__law_left.nd rfl (by first | exact Or.inl rfl | exact Or.inr rfl)) (pgs_cons (pg_name (i := 8) sc__law_left.nd rfl (by first | exact Or.inl rfl | exact Or.inr rfl)) (pgs_cons (pg_name (i := 9) sc__law_left.nd rfl (by first | exact Or.inl rfl | exact Or.inr rfl)) pgs_nil)))))
  (pss_cons (ps_par (i := 10) (j := 11) rfl sc__law_left.nd rfl rfl (by decide) rfl rfl (pa_cons (pe_callB (call_max2 rfl) (by rfl) T.max (by decide +kernel) (pa_cons pe_int (pa_cons (pe_op op_sub (pv 8) (pv 1)) pa_nil))) (pa_cons pe_int pa_nil)) (by rfl))
  (pss_cons (ps_for PassesOwn.never rfl (pi_range3 (by rfl) T.range (pa_cons pe_int (pa_cons (pv 6) (pa_cons (pv 4) pa_nil)))) (pg_name (i := 12) sc__law_left.nd rfl (by first | exact Or.inl rfl | exact Or.inr rfl))
  (pss_cons (ps_if (PW.pt (pw_or (pt_cmpR op_eq (pv 11) pe_int (nomark _)) (pw_or1 (pt_cmpR op_lt (pe_op op_sub (pv 9) (pe_op op_sub (pv 0) (pv 10))) (pv 2) (nomark _)))))
  (pss_one (ps_set (i := 10) sc__law_left.nd rfl (by first | exact Or.inl rfl | exact Or.inr rfl) (pe_callB (call_max2 rfl) (by rfl) T.max (by decide +kernel) (pa_cons pe_int (pa_cons (pe_op op_sub (pv 10) (pv 3)) pa_nil)))))
  pss_nil)
  (pss_cons (ps_set (i := 11) sc__law_left.nd rfl (by first | exact Or.inl rfl | exact Or.inr rfl) (pe_op op_add (pv 11) pe_int))
  (pss_one (ps_if (PW.pt (pw_or (pt_cmpR op_eq (pv 10) pe_int (nomark _)) (pw_or1 (pt_cmpR op_gt (pv 11) pe_int (nomark _)))))
  (pss_one ps_break)
  pss_nil)))))
  (pss_one (ps_ret (pv 10)))))), ?_⟩
    refine ⟨_, rfl, a, _, rfl, ha, rfl, _, _, rfl, _, _, rfl, _, [], rfl, rfl, ?_⟩
    refine ⟨_, rfl, _, rfl, _, _, rfl, rfl, _, _, rfl, _, _, rfl, ?_⟩
    rw [left_turns (by omega) hwo.1] at q
    refine ⟨_, rfl, _, rfl, 0, words, d, turnsN words d, rfl, rg_turns hwo.1 (by omega) hd.1 (by omega), ?_⟩
    refine for_rangeC (lo := 0) (c := d) (n := turnsN words d) (fun i σ H' => ∃ x, σ = [some (.int k), some (.int f), some (.int m), some (.int s), some (.int d), some (.ref a), some (.int words), some (.int w1), some (.int w2), some (.int g), some (.int (leftN k f m w2 g s i)), some (.int (i : Int)), x] ∧ H' = H ∧
      i ≤ 14 ∧ (i = 0 ∨ leftN k f m w2 g s i ≠ 0)) ⟨none, by rw [leftN_0]; rfl, rfl, by omega, .inl rfl⟩ ?_ ?_
    · rintro i σ H' hi ⟨x, rfl, rfl, h14, hne⟩
      have step := left_step (f := f) (w2 := w2) hs.1 hg hm hne
      have fin : ∀ h : leftN k f m w2 g s (i + 1) = 0 ∨ 14 < i + 1, Q (.int (leftN k f m w2 g s (i + 1))) H' := fun h => by
        rw [← left_stays hs.1 hw hf (show i + 1 ≤ turnsN words d from hi) (by omega) h]
        exact q
      refine ⟨_, rfl, rfl, _, rfl, or2 (c2 := g - (k - leftN k f m w2 g s i) < m) (fun h => ?_) (fun h0 hA => ?_)⟩
      · rw [if_pos (h.imp i0.mp id)] at step
        refine ⟨_, rfl, _, rfl, _, _, rfl, rfl, _, _, rfl, ?_⟩
        rw [show (if leftN k f m w2 g s i - s > 0 then leftN k f m w2 g s i - s else 0) = mx 0 (leftN k f m w2 g s i - s) from rfl, step]
        refine ⟨_, rfl, _, _, rfl, rfl, _, rfl, rfl, _, rfl, or2 (c2 := 14 < i + 1) (fun h => ?_) (fun h0 hA => ?_)⟩
        · exact ⟨_, rfl, fin (h.imp (fun z => V.int.inj z) id)⟩
        · refine ⟨_, rfl, _, _, rfl, rfl, _, rfl, ite_dec (fun h1 => hA (.inr (by omega))) (fun h1 => ⟨_, rfl, rfl, by omega, .inr fun z => h0 (by rw [z])⟩)⟩
      · refine ⟨_, rfl, _, rfl, _, rfl, _, _, rfl, rfl, _, _, rfl, rfl, _, rfl, _, _, rfl, rfl, _, rfl, ite_dec (fun h1 => hA (.inr h1)) (fun h1 => ?_)⟩
        rw [if_neg (fun z => z.elim (fun z => h0 (i0.mpr z)) h1)] at step
        rw [step]
        refine ⟨_, rfl, _, _, rfl, rfl, _, rfl, rfl, _, rfl, or2 (c2 := 14 < i + 1) (fun h => ?_) (fun h0 hA => ?_)⟩
        · exact ⟨_, rfl, fin (h.imp (fun z => V.int.inj z) id)⟩
        · refine ⟨_, rfl, _, _, rfl, rfl, _, rfl, ite_dec (fun h1 => hA (.inr (by omega))) (fun h1 => ⟨_, rfl, rfl, by omega, .inr fun z => h0 (by rw [z])⟩)⟩
    · rintro σ H' ⟨x, rfl, rfl, h14, hne⟩
      exact ⟨_, rfl, q⟩
def sp_Lgone (K : PySem.W.Frag) : Sp := fun vs H Q _ => ∃ (k f m s d w1 w2 g : Int) (a : Addr), vs = [.int k, .int f, .int m, .int s, .int d, .ref a] ∧ TriAt K H a w1 w2 g ∧ 0 ≤ f ∧ 1 ≤ m ∧ (0 ≤ s ∧ s ≤ 12) ∧ (1 ≤ d ∧ d ≤ 200) ∧ w2 ≤ 12 ∧ g ≤ k ∧ ∀ H', Same H H' → Q (optV (goneO k f d m w2 g s)) H'
theorem left_at {k f m w2 g s d : Int} (hd : 1 ≤ d) (i : Nat) : leftI k f d m w2 g s (wordsAt d i) = leftN k f m w2 g s i := by
  rw [left_turns (by omega) (words_nn (by omega) i), turns_at (by omega)]
theorem words_bd {d : Int} (hd : 1 ≤ d ∧ d ≤ 200) {i : Nat} (h : i < 15) : wordsAt d i ≤ 100000 := by
  match i with
  | 0 => show (0 : Int) ≤ 100000; decide
  | i + 1 =>
    have : (i : Int) * d ≤ (i : Int) * 200 := Int.mul_le_mul_of_nonneg_left (by omega) (by omega)
    show (i : Int) * d + 1 ≤ 100000
    omega
theorem ok_Lgone {f : Addr} {fd : FuncData} (F : Fun K "_law_gone" "_law_gone" s__law_gone f fd) (T : Txt K mg) (D__law_left : Df P w K mg base 1 "_law_left" ["k", "f", "m", "spread", "d", "triple", "words"] (sp_Lleft K)) : FnOk P w K mg base CX0 2 f fd ["k", "f", "m", "spread", "d", "triple"] (sp_Lgone K) := by
  refine F.ok sc__law_gone (fun vs H Q E h => ?_) (fun cdv A outer st H vs Q E hr h => ?_)
  · obtain ⟨_, _, _, _, _, _, _, _, _, rfl, _⟩ := h
    rfl
  · obtain ⟨k, f, m, s, d, w1, w2, g, a, rfl, ha, hf, hm, hs, hd, hw, hg, q⟩ := h
    refine ⟨_, (pss_cons (ps_for PassesOwn.never rfl (pi_list (pe_op op_cat (pe_lst (pa_cons pe_int pa_nil)) (pe_lc (own := [("at", 7)]) (by rfl) sc__law_gone.nd (pi_range1 (by rfl) T.range (pa_cons pe_int pa_nil)) (blkOk_by (own := [("at", 7)]) (N := N__law_gone) (sc := defScope s__law_gone) (by decide +kernel)) (fun _ _ _ _ _ => (pg_name (i := 7) sc__law_gone.nd rfl (by first | exact Or.inl rfl | exact Or.inr rfl))) (fun _ _ _ _ _ => pts_nil) (fun _ _ _ _ _ => (pe_op op_add (pe_op op_mul (pv 7) (pv 4)) pe_int))))) (pg_name (i := 6) sc__law_gone.nd rfl (by first | exact Or.inl rfl | exact Or.inr rfl))
  (pss_one (ps_if (pt_cmpR op_lt (pe_call D__law_left.ok (hr.mono (by first | decide | omega)) (by rfl) D__law_left.m D__law_left.kp D__law_left.b .nil pass0 (pa_cons (pv 0) (pa_cons (pv 1) (pa_cons (pv 2) (pa_cons (pv 3) (pa_cons (pv 4) (pa_cons (pv 5) (pa_cons (pv 6) pa_nil)))))))) (pv 2) (nomark _))
  (pss_one (ps_ret (pv 6)))
  pss_nil)))
  (pss_one (ps_ret pe_non))), ?_⟩
    refine ⟨by show 1 ≤ sizeLine; decide, fun z hz => ?_⟩
    have s1 := same_new (o := .lst [.int 0]) hz
    refine ⟨14, rfl, by decide, by decide, fun D hD => ?_⟩
    refine lc_same (walk_range (lo := 0) (n := (14 : Int).toNat)) (by decide) hD ErI (fun _ _ _ _ _ _ h => h) (fun _ _ _ _ _ h => h) (fun i l => l = (List.range i).map fun j => wordsAt d (j + 1)) rfl (fun _ _ => trivial) ?_ ?_
    · rintro i x H2 H3 l hi sm - rfl ⟨rfl, rfl⟩ A B hA hB
      refine ⟨rfl, t_yes ?_⟩
      refine ⟨_, rfl, _, rfl, _, _, rfl, rfl, .inr ⟨by omega, by omega⟩, _, _, rfl, rfl, ?_⟩
      refine hA _ _ _ (Same.refl _) rfl ?_
      rw [List.range_succ, List.map_append]
      show _ = _ ++ [(i : Int) * d + 1]
      rw [Int.zero_add]
    · rintro H2 us l sm hD2 hE rfl
      have e := hE.ints
      subst e
      refine ⟨z, D, _, _, rfl, rfl, sm _ _ upd_same, hD2, by simp only [List.length_map, List.length_range, List.length_singleton]; decide, fun p hp => ?_⟩
      have s2 := (s1.trans sm).trans (same_new (o := .lst ([.int 0] ++ (((List.range (Int.toNat 14)).map fun j => wordsAt d (j + 1)).map V.int))) hp)
      have hlist : ([V.int 0] ++ (((List.range (Int.toNat 14)).map fun j => wordsAt d (j + 1)).map V.int)) = (List.range 15).map fun j => V.int (wordsAt d j) := by rfl
      refine ⟨p, rfl, ⟨_, SqL.of upd_same⟩, ?_⟩
      have hp3 : upd H2 p (.lst ([.int 0] ++ (((List.range (Int.toNat 14)).map fun j => wordsAt d (j + 1)).map V.int))) p = some (.lst ((List.range 15).map fun j => V.int (wordsAt d j))) := by rw [upd_same, hlist]
      generalize upd H2 p (.lst ([.int 0] ++ (((List.range (Int.toNat 14)).map fun j => wordsAt d (j + 1)).map V.int))) = H3 at *
      refine for_list (xs := (List.range 15).map fun j => V.int (wordsAt d j)) (fun i σ H' => ∃ x y, σ = [some (.int k), some (.int f), some (.int m), some (.int s), some (.int d), some (.ref a), x, y] ∧ H' = H3 ∧ ∀ j, j < i → m ≤ leftN k f m w2 g s j)
        ⟨_, _, rfl, rfl, fun j h => by omega⟩ (fun i σ H' _ ⟨_, _, _, e, _⟩ => by rw [e]; exact SqL.of hp3) ?_ ?_
      · rintro i y σ H' hy ⟨x, x2, rfl, rfl, inv⟩
        rw [List.getElem?_map] at hy
        have hi : i < 15 := by
          by_cases h : i < 15
          · exact h
          · rw [List.getElem?_eq_none (by simp; omega)] at hy
            cases hy
        rw [List.getElem?_range hi] at hy
        obtain rfl : V.int (wordsAt d i) = y := Option.some.inj hy
        refine ⟨_, rfl, _, rfl, _, rfl, _, rfl, _, rfl, _, rfl, _, rfl, k, f, m, s, d, w1, w2, g, wordsAt d i, a, rfl, seqT s2 ha, hf, hm, hs, hd, hw, hg, ⟨words_nn (by omega) i, words_bd hd hi⟩, ?_⟩
        rw [left_at hd.1]
        refine ⟨_, rfl, _, _, rfl, rfl, _, rfl, ite_dec (fun h1 => ?_) (fun h1 => ?_)⟩
        · have := q _ s2
          rw [gone_some hs hm h1 inv] at this
          exact ⟨_, rfl, this⟩
        · refine ⟨_, _, rfl, rfl, fun j hj => ?_⟩
          by_cases z : j = i
          · rw [z]; omega
          · exact inv j (by omega)
      · rintro σ H' ⟨x, x2, rfl, rfl, inv⟩
        have := q _ s2
        rw [gone_none hs hm hw hf (fun j hj => inv j (by simpa using hj))] at this
        exact this
end
end K26

namespace K26
open PySem PySem.Spec PyProof.Rows L2 Hl
/-! ### the law's comparisons -/
def C2 : PyData → Prop := Sc (Sc (Sc ScF))
theorem sc_int {C : PyData → Prop} (i : Int) : Sc C (.int i) := .inr (.inr (.inl ⟨i, rfl⟩))
theorem sc_bool {C : PyData → Prop} (b : Bool) : Sc C (.bool b) := .inr (.inl ⟨b, rfl⟩)
theorem sc_none {C : PyData → Prop} : Sc C .none := .inl rfl
theorem sc_tup {C : PyData → Prop} {ds : List PyData} (hl : ds.length ≤ 10000) (h : ∀ x ∈ ds, C x) : Sc C (.tuple ds) := .inr (.inr (.inr ⟨ds, rfl, hl, h⟩))
def optI : Option Int → PyData
  | none => .none
  | some i => .int i
theorem dp_opt {K : PySem.W.Frag} {H : Hp} (u : Option Int) : Dp K H (optV u) (optI u) := by
  cases u with
  | none => exact .non
  | some i => exact .int i
theorem sc_opt {C : PyData → Prop} (u : Option Int) : Sc C (optI u) := by
  cases u with
  | none => exact sc_none
  | some i => exact sc_int i
theorem dp2 {K : PySem.W.Frag} {H : Hp} {a : Addr} {x y : V} {d e : PyData} (h : SqT K H a [x, y]) (hx : Dp K H x d) (hy : Dp K H y e) : Dp K H (.ref a) (.tuple [d, e]) := .tup h (.cons hx (.cons hy .nil))
theorem dp3 {K : PySem.W.Frag} {H : Hp} {a : Addr} {x y z : V} {d e c : PyData} (h : SqT K H a [x, y, z]) (hx : Dp K H x d) (hy : Dp K H y e) (hz : Dp K H z c) : Dp K H (.ref a) (.tuple [d, e, c]) := .tup h (.cons hx (.cons hy (.cons hz .nil)))
theorem c_2 {d e : PyData} (hd : Sc (Sc ScF) d) (he : Sc (Sc ScF) e) : C2 (.tuple [d, e]) := sc_tup (by show 2 ≤ 10000; decide) fun x h => by
  simp only [List.mem_cons, List.not_mem_nil, or_false] at h
  rcases h with rfl | rfl
  · exact hd
  · exact he
theorem c_3 {d e c : PyData} (hd : Sc (Sc ScF) d) (he : Sc (Sc ScF) e) (hc : Sc (Sc ScF) c) : C2 (.tuple [d, e, c]) := sc_tup (by show 3 ≤ 10000; decide) fun x h => by
  simp only [List.mem_cons, List.not_mem_nil, or_false] at h
  rcases h with rfl | rfl | rfl
  · exact hd
  · exact he
  · exact hc
/-! ### what the law asks -/
theorem last_gone {k f d m w2 g s : Int} (hs : 0 ≤ s) (hm : 1 ≤ m) (hg : g ≤ k) : lastB k f m w2 g s = (goneO k f d m w2 g s).isNone := by
  unfold goneO beyondI
  cases h : lastB k f m w2 g s with
  | true =>
    have : s < w2 - f - m + 1 := by
      by_cases h0 : s = 0
      · unfold lastB at h
        rw [if_pos h0] at h
        have := of_decide_eq_true h
        omega
      · have := last_far h0 h
        omega
    rw [if_neg (by omega), if_neg (by omega)]
    rfl
  | false =>
    split
    · rfl
    · split
      · rfl
      · rfl
theorem times_pos {a s : Int} (h : 1 ≤ s) (h' : s ≤ 12) (h1 : 1 ≤ a) (h2 : a ≤ 24) : 1 ≤ timesI a s ∧ timesI a s ≤ 24 := by
  unfold timesI
  rcases s_cases h h' with rfl | rfl | rfl | rfl | rfl | rfl | rfl | rfl | rfl | rfl | rfl | rfl <;> omega
theorem word_bd {t d : Int} (ht : 1 ≤ t ∧ t ≤ 24) (hd : 1 ≤ d ∧ d ≤ 200) : 0 ≤ (t - 1) * d + 1 ∧ (t - 1) * d + 1 ≤ 90000 := by
  have h1 : 0 ≤ (t - 1) * d := Int.mul_nonneg (by omega) (by omega)
  have h2 : (t - 1) * d ≤ (t - 1) * 200 := Int.mul_le_mul_of_nonneg_left hd.2 (by omega)
  omega
theorem gone_bd {k f d m w1 w2 g s x : Int} (o : Ok k f d m w1 w2 g s) (h : goneO k f d m w2 g s = some x) : 0 ≤ x ∧ x ≤ 90000 := by
  obtain ⟨k1, k2, f1, f2, d1, d2, m1, m2, a1, a2, b1, b2, g1, g2, s1, s2⟩ := o
  unfold goneO at h
  split at h
  · obtain rfl := Option.some.inj h; decide
  split at h
  · obtain rfl := Option.some.inj h; decide
  rename_i n1 n2
  split at h
  · cases h
  rename_i hl
  obtain rfl := Option.some.inj h
  have hb : 1 ≤ beyondI f m w2 ∧ beyondI f m w2 ≤ 12 := by unfold beyondI at *; omega
  have hs : 1 ≤ s := s_pos s1 (by simpa using hl) (by unfold beyondI at *; omega)
  exact word_bd (times_pos hs s2 hb.1 (by omega)) ⟨d1, d2⟩
theorem twice_bd {k f d m w1 w2 g s x : Int} (o : Ok k f d m w1 w2 g s) (h : twiceO k f d w1 w2 g s = some x) : 0 ≤ x ∧ x ≤ 90000 := by
  obtain ⟨k1, k2, f1, f2, d1, d2, m1, m2, a1, a2, b1, b2, g1, g2, s1, s2⟩ := o
  unfold twiceO at h
  split at h
  · obtain rfl := Option.some.inj h; decide
  split at h
  · obtain rfl := Option.some.inj h; decide
  rename_i n1 n2
  split at h
  · cases h
  rename_i hl
  obtain rfl := Option.some.inj h
  have hs : 1 ≤ s := by
    unfold singleB at hl
    rw [decide_eq_true (by omega), Bool.true_and] at hl
    by_cases h0 : s = 0
    · rw [decide_eq_true h0] at hl; exact absurd rfl hl
    · omega
  have hb : 1 ≤ needI k f w1 w2 ∧ needI k f w1 w2 ≤ 24 := by
    unfold nearI at n2
    unfold needI mx
    split <;> omega
  exact word_bd (times_pos hs s2 hb.1 hb.2) ⟨d1, d2⟩
def edgP (t u : Option Int) : Nat → List Int
  | 0 => []
  | 1 => t.toList
  | _ => t.toList ++ u.toList
theorem for_all (t u : Option Int) (words : Int) : ((edgP t u 2).map fun x => decide (words < x)).all id = forB t u words := by
  unfold edgP forB
  cases t <;> cases u <;> simp [ltO]
theorem seqT_frm {K : PySem.W.Frag} {H H' : Hp} {w q a : Addr} {xs : List V} (fr : Frm w q H H') (hh : HeapAt H w q) (h : SqT K H a xs) : SqT K H' a xs := by
  obtain ⟨cs, st, hw, hq, _⟩ := hh
  rcases h with (h | ⟨o, h⟩) | h
  · exact .inl (.inl (fr _ _ (ne_of h hw (fun z => nomatch z)) (ne_of h hq (fun z => nomatch z)) h))
  · exact .inl (.inr ⟨o, fr _ _ (ne_of h hw (fun z => nomatch z)) (ne_of h hq (fun z => nomatch z)) h⟩)
  · exact .inr h
theorem num_frm {C : Addr} {H H' : Hp} {w q p : Addr} {k f d m w1 w2 g : Int} (fr : Frm w q H H') (hh : HeapAt H w q) (h : NumAt C H p k f d m w1 w2 g) : NumAt C H' p k f d m w1 w2 g := by
  obtain ⟨cs, st, hw, hq, _⟩ := hh
  obtain ⟨dx, h⟩ := h
  exact ⟨dx, fr _ _ (ne_of h hw (fun z => nomatch z)) (ne_of h hq (fun z => nomatch z)) h⟩
theorem num_same {C : Addr} {H H' : Hp} {p : Addr} {k f d m w1 w2 g : Int} (e : Same H H') (h : NumAt C H p k f d m w1 w2 g) : NumAt C H' p k f d m w1 w2 g := by
  obtain ⟨dx, h⟩ := h
  exact ⟨dx, e _ _ h⟩
theorem HeapAt.ne {H : Hp} {w q s : Addr} (h : HeapAt H w q) (hs : H s = none) : s ≠ w ∧ s ≠ q := by
  obtain ⟨cs, st, hw, hq, _⟩ := h
  exact ⟨(ne_of_none hw hs).symm, (ne_of_none hq hs).symm⟩
theorem max_mx {a b c z : Int} : decide ([b, c].foldl max a ≤ z) = decide (mx (mx a b) c ≤ z) := by
  refine decide_eq_decide.mpr ?_
  show max (max a b) c ≤ z ↔ _
  unfold mx
  split <;> split <;> omega
section
variable {P : Program} {w : World} {K : PySem.W.Frag} {mg : Str → Option Value} {base : Heap}
def sp_safety (K : PySem.W.Frag) : Sp := fun vs H Q _ => ∃ (w q : Addr) (k f d m w1 w2 g s : Int) (a : Addr), vs = [.ref w, .int k, .int f, .int m, .int s, .int d, .ref a] ∧ HeapAt H w q ∧ TriAt K H a w1 w2 g ∧ Ok k f d m w1 w2 g s ∧ m ≤ k ∧
  ∀ H', Frm w q H H' → HeapAt H' w q → Q (.bl true) H'
theorem ok_safety {f : Addr} {fd : FuncData} (F : Fun K "_law_asked_safety" "_law_asked_safety" s__law_asked_safety f fd) (T : Txt K mg)
    {fdI : FuncData} (GI_Numbers : FnOk P w K mg base CX0 3 T.fI fdI ["self", "k", "f", "d", "m", "w1", "w2", "g"] (sp_Numbers_init T.C_Numbers)) (bI_Numbers : Binds K fdI ["self", "k", "f", "d", "m", "w1", "w2", "g"] [])
    (D__law_twice : Df P w K mg base 1 "_law_twice" ["k", "f", "spread", "d", "triple"] (sp_Ltwice K)) (D__law_gone : Df P w K mg base 2 "_law_gone" ["k", "f", "m", "spread", "d", "triple"] (sp_Lgone K))
    (D__law_single : Df P w K mg base 1 "_law_single" ["k", "f", "spread", "triple"] (sp_Lsingle K)) (D__law_lasting : Df P w K mg base 1 "_law_lasting" ["k", "f", "m", "spread", "triple"] (sp_Llasting K))
    (D_near_slack : Df P w K mg base 1 "near_slack" ["numbers", "spread"] (spNum T.C_Numbers fun k f d m w1 w2 g s => .int (nearI k f w1 s))) (D_far_slack : Df P w K mg base 1 "far_slack" ["numbers", "spread"] (spNum T.C_Numbers fun k f d m w1 w2 g s => .int (farI k f w2 g s)))
    (D_mend_slack : Df P w K mg base 2 "mend_slack" ["numbers", "spread"] (spNum T.C_Numbers fun k f d m w1 w2 g s => .int (farI k f w2 g s - m))) (D__law_like : Df P w K mg base 3 "_law_like" ["told", "due"] (spLike K C2))
    (D_is_single : Df P w K mg base 2 "is_single" ["numbers", "spread"] (spNum T.C_Numbers fun k f d m w1 w2 g s => .bl (singleB k f w1 w2 g s))) (D_is_lasting : Df P w K mg base 3 "is_lasting" ["numbers", "spread"] (spNum T.C_Numbers fun k f d m w1 w2 g s => .bl (lastB k f m w2 g s)))
    (D_is_safe : Df P w K mg base 4 "is_safe" ["numbers", "spread"] (spNum T.C_Numbers fun k f d m w1 w2 g s => .bl (singleB k f w1 w2 g s && lastB k f m w2 g s))) (D_words_to_twice : Df P w K mg base 3 "words_to_twice" ["numbers", "spread"] (spNum T.C_Numbers fun k f d m w1 w2 g s => optV (twiceO k f d w1 w2 g s)))
    (D_words_to_gone : Df P w K mg base 4 "words_to_gone" ["numbers", "spread"] (spNum T.C_Numbers fun k f d m w1 w2 g s => optV (goneO k f d m w2 g s))) (D__law_draw : Df P w K mg base 1 "_law_draw" ["heap", "many"] sp_draw)
    (D_is_safe_for : Df P w K mg base 5 "is_safe_for" ["numbers", "spread", "words"] (sp_safe_for T.C_Numbers)) (D_left_behind : Df P w K mg base 4 "left_behind" ["numbers", "spread", "words"] (sp_left_behind T.C_Numbers)) (D__law_left : Df P w K mg base 1 "_law_left" ["k", "f", "m", "spread", "d", "triple", "words"] (sp_Lleft K))
    (D_can_end : Df P w K mg base 1 "can_end" ["numbers"] (spNum1 T.C_Numbers fun k f d m w1 w2 g => .bl (decide (mx (mx w1 w2) g ≤ k - f)))) :
    FnOk P w K mg base CX0 7 f fd ["heap", "k", "f", "m", "spread", "d", "triple"] (sp_safety K) := by
  refine F.ok sc__law_asked_safety (fun vs H Q E h => ?_) (fun cdv A outer st H vs Q E hr h => ?_)
  · obtain ⟨_, _, _, _, _, _, _, _, _, _, _, rfl, _⟩ := h
    rfl
  · obtain ⟨w, q, k, f, d, m, w1, w2, g, s, a, rfl, hh, ha, o, hmk, fin⟩ := h
    refine ⟨_, (pss_cons (ps_set (i := 7) sc__law_asked_safety.nd rfl (by first | exact Or.inl rfl | exact Or.inr rfl) (pe_make T.mk_Numbers GI_Numbers (hr.mono (by first | decide | omega)) (by rfl) T.m_Numbers bI_Numbers .nil pass0 (pa_cons (pv 1) (pa_cons (pv 2) (pa_cons (pv 5) (pa_cons (pv 3) (pa_cons (pe_ix ix_tup (pv 6) pe_int (fun _ _ => rfl)) (pa_cons (pe_ix ix_tup (pv 6) pe_int (fun _ _ => rfl)) (pa_cons (pe_ix ix_tup (pv 6) pe_int (fun _ _ => rfl)) pa_nil)))))))))
  (pss_cons (ps_par (i := 8) (j := 9) rfl sc__law_asked_safety.nd rfl rfl (by decide) rfl rfl (pa_cons (pe_call D__law_twice.ok (hr.mono (by first | decide | omega)) (by rfl) D__law_twice.m D__law_twice.kp D__law_twice.b .nil pass0 (pa_cons (pv 1) (pa_cons (pv 2) (pa_cons (pv 4) (pa_cons (pv 5) (pa_cons (pv 6) pa_nil)))))) (pa_cons (pe_call D__law_gone.ok (hr.mono (by first | decide | omega)) (by rfl) D__law_gone.m D__law_gone.kp D__law_gone.b .nil pass0 (pa_cons (pv 1) (pa_cons (pv 2) (pa_cons (pv 3) (pa_cons (pv 4) (pa_cons (pv 5) (pa_cons (pv 6) pa_nil))))))) pa_nil)) (by rfl))
  (pss_cons (ps_par (i := 10) (j := 11) rfl sc__law_asked_safety.nd rfl rfl (by decide) rfl rfl (pa_cons (pe_call D__law_single.ok (hr.mono (by first | decide | omega)) (by rfl) D__law_single.m D__law_single.kp D__law_single.b .nil pass0 (pa_cons (pv 1) (pa_cons (pv 2) (pa_cons (pv 4) (pa_cons (pv 6) pa_nil))))) (pa_cons (pe_call D__law_lasting.ok (hr.mono (by first | decide | omega)) (by rfl) D__law_lasting.m D__law_lasting.kp D__law_lasting.b .nil pass0 (pa_cons (pv 1) (pa_cons (pv 2) (pa_cons (pv 3) (pa_cons (pv 4) (pa_cons (pv 6) pa_nil)))))) pa_nil)) (by rfl))
  (pss_cons (ps_set (i := 12) sc__law_asked_safety.nd rfl (by first | exact Or.inl rfl | exact Or.inr rfl) (pe_tup (pa_cons (pe_call D_near_slack.ok (hr.mono (by first | decide | omega)) (by rfl) D_near_slack.m D_near_slack.kp D_near_slack.b .nil pass0 (pa_cons (pv 7) (pa_cons (pv 4) pa_nil))) (pa_cons (pe_call D_far_slack.ok (hr.mono (by first | decide | omega)) (by rfl) D_far_slack.m D_far_slack.kp D_far_slack.b .nil pass0 (pa_cons (pv 7) (pa_cons (pv 4) pa_nil))) (pa_cons (pe_call D_mend_slack.ok (hr.mono (by first | decide | omega)) (by rfl) D_mend_slack.m D_mend_slack.kp D_mend_slack.b .nil pass0 (pa_cons (pv 7) (pa_cons (pv 4) pa_nil))) pa_nil)))))
  (pss_cons (ps_set (i := 13) sc__law_asked_safety.nd rfl (by first | exact Or.inl rfl | exact Or.inr rfl) (pe_op op_sub (pe_op op_sub (pe_op op_sub (pe_op op_add (pe_ix ix_tup (pv 6) pe_int (fun _ _ => rfl)) (pe_ix ix_tup (pv 6) pe_int (fun _ _ => rfl))) (pv 1)) (pv 2)) (pv 4)))
  (pss_cons (ps_if (pt_not (pt_val (pe_call D__law_like.ok (hr.mono (by first | decide | omega)) (by rfl) D__law_like.m D__law_like.kp D__law_like.b .nil pass0 (pa_cons (pv 12) (pa_cons (pe_tup (pa_cons (pe_op op_sub (pe_op op_sub (pe_op op_sub (pe_op op_mul pe_int (pe_ix ix_tup (pv 6) pe_int (fun _ _ => rfl))) (pv 1)) (pv 2)) (pv 4)) (pa_cons (pv 13) (pa_cons (pe_op op_sub (pv 13) (pv 3)) pa_nil)))) pa_nil)))))
  (pss_one (ps_ret pe_bl))
  pss_nil)
  (pss_cons (ps_if (pt_not (pt_val (pe_call D__law_like.ok (hr.mono (by first | decide | omega)) (by rfl) D__law_like.m D__law_like.kp D__law_like.b .nil pass0 (pa_cons (pe_tup (pa_cons (pe_call D_is_single.ok (hr.mono (by first | decide | omega)) (by rfl) D_is_single.m D_is_single.kp D_is_single.b .nil pass0 (pa_cons (pv 7) (pa_cons (pv 4) pa_nil))) (pa_cons (pe_call D_is_lasting.ok (hr.mono (by first | decide | omega)) (by rfl) D_is_lasting.m D_is_lasting.kp D_is_lasting.b .nil pass0 (pa_cons (pv 7) (pa_cons (pv 4) pa_nil))) (pa_cons (pe_call D_is_safe.ok (hr.mono (by first | decide | omega)) (by rfl) D_is_safe.m D_is_safe.kp D_is_safe.b .nil pass0 (pa_cons (pv 7) (pa_cons (pv 4) pa_nil))) pa_nil)))) (pa_cons (pe_tup (pa_cons (pv 10) (pa_cons (pv 11) (pa_cons (pe_cut (pe_and (pv 10) (pe_one (pv 11)))) pa_nil)))) pa_nil)))))
  (pss_one (ps_ret pe_bl))
  pss_nil)
  (pss_cons (ps_if (pt_cut (PW.pt (pw_or (pt_cmpR op_ne (pv 11) (pe_cmpR op_isN (pv 9) pe_non (nomark _)) (nomark _)) (pw_or1 (pt_not (pt_val (pe_call D__law_like.ok (hr.mono (by first | decide | omega)) (by rfl) D__law_like.m D__law_like.kp D__law_like.b .nil pass0 (pa_cons (pe_tup (pa_cons (pe_call D_words_to_twice.ok (hr.mono (by first | decide | omega)) (by rfl) D_words_to_twice.m D_words_to_twice.kp D_words_to_twice.b .nil pass0 (pa_cons (pv 7) (pa_cons (pv 4) pa_nil))) (pa_cons (pe_call D_words_to_gone.ok (hr.mono (by first | decide | omega)) (by rfl) D_words_to_gone.m D_words_to_gone.kp D_words_to_gone.b .nil pass0 (pa_cons (pv 7) (pa_cons (pv 4) pa_nil))) pa_nil))) (pa_cons (pe_tup (pa_cons (pv 8) (pa_cons (pv 9) pa_nil))) pa_nil)))))))))
  (pss_one (ps_ret pe_bl))
  pss_nil)
  (pss_cons (ps_setLc (i := 14) (own := [("one", 16)]) (by rfl) sc__law_asked_safety.nd rfl rfl (sw_true rfl rfl rfl (by decide +kernel)) (pi_list (pe_lst (pa_cons (pv 8) (pa_cons (pv 9) pa_nil)))) (blkOk_by (own := [("one", 16)]) (N := N__law_asked_safety) (sc := defScope s__law_asked_safety) (by decide +kernel)) (fun _ _ _ _ _ => (pg_name (i := 16) sc__law_asked_safety.nd rfl (by first | exact Or.inl rfl | exact Or.inr rfl))) (fun _ _ _ _ _ => (pts_one (pt_cmpR op_notN (pv 16) pe_non (nomark _)))) (fun _ _ _ _ _ => (pv 16)))
  (pss_cons (ps_for PassesOwn.never rfl (pi_list (pe_cut (pe_op op_cat (pe_op op_cat (pe_lst (pa_cons pe_int (pa_cons pe_int (pa_cons (pv 5) (pa_cons (pe_op op_add (pv 5) pe_int) (pa_cons (pe_op op_mul pe_int (pv 5)) (pa_cons (pe_op op_add (pe_op op_mul pe_int (pv 5)) pe_int) (pa_cons (pe_call D__law_draw.ok (hr.mono (by first | decide | omega)) (by rfl) D__law_draw.m D__law_draw.kp D__law_draw.b .nil pass0 (pa_cons (pv 0) (pa_cons pe_int pa_nil))) pa_nil)))))))) (pv 14)) (pe_lc (own := [("one", 16)]) (by rfl) sc__law_asked_safety.nd (pi_list (pv 14)) (blkOk_by (own := [("one", 16)]) (N := N__law_asked_safety) (sc := defScope s__law_asked_safety) (by decide +kernel)) (fun _ _ _ _ _ => (pg_name (i := 16) sc__law_asked_safety.nd rfl (by first | exact Or.inl rfl | exact Or.inr rfl))) (fun _ _ _ _ _ => (pts_one (pt_cmpR op_gt (pv 16) pe_int (nomark _)))) (fun _ _ _ _ _ => (pe_op op_sub (pv 16) pe_int)))))) (pg_name (i := 15) sc__law_asked_safety.nd rfl (by first | exact Or.inl rfl | exact Or.inr rfl))
  (pss_cons (ps_if (pt_not (pt_val (pe_call D__law_like.ok (hr.mono (by first | decide | omega)) (by rfl) D__law_like.m D__law_like.kp D__law_like.b .nil pass0 (pa_cons (pe_call D_is_safe_for.ok (hr.mono (by first | decide | omega)) (by rfl) D_is_safe_for.m D_is_safe_for.kp D_is_safe_for.b .nil pass0 (pa_cons (pv 7) (pa_cons (pv 4) (pa_cons (pv 15) pa_nil)))) (pa_cons (pe_callB (cr_all rfl) (by rfl) T.all (by decide +kernel) (pa_cons (pe_lc (own := [("one", 16)]) (by rfl) sc__law_asked_safety.nd (pi_list (pv 14)) (blkOk_by (own := [("one", 16)]) (N := N__law_asked_safety) (sc := defScope s__law_asked_safety) (by decide +kernel)) (fun _ _ _ _ _ => (pg_name (i := 16) sc__law_asked_safety.nd rfl (by first | exact Or.inl rfl | exact Or.inr rfl))) (fun _ _ _ _ _ => pts_nil) (fun _ _ _ _ _ => (pe_cmpR op_lt (pv 15) (pv 16) (nomark _)))) pa_nil)) pa_nil)))))
  (pss_one (ps_ret pe_bl))
  pss_nil)
  (pss_one (ps_if (pt_not (pt_val (pe_call D__law_like.ok (hr.mono (by first | decide | omega)) (by rfl) D__law_like.m D__law_like.kp D__law_like.b .nil pass0 (pa_cons (pe_call D_left_behind.ok (hr.mono (by first | decide | omega)) (by rfl) D_left_behind.m D_left_behind.kp D_left_behind.b .nil pass0 (pa_cons (pv 7) (pa_cons (pv 4) (pa_cons (pv 15) pa_nil)))) (pa_cons (pe_call D__law_left.ok (hr.mono (by first | decide | omega)) (by rfl) D__law_left.m D__law_left.kp D__law_left.b .nil pass0 (pa_cons (pv 1) (pa_cons (pv 2) (pa_cons (pv 3) (pa_cons (pv 4) (pa_cons (pv 5) (pa_cons (pv 6) (pa_cons (pv 15) pa_nil)))))))) pa_nil)))))
  (pss_one (ps_ret pe_bl))
  pss_nil))))
  (pss_one (ps_ret (pe_call D__law_like.ok (hr.mono (by first | decide | omega)) (by rfl) D__law_like.m D__law_like.kp D__law_like.b .nil pass0 (pa_cons (pe_call D_can_end.ok (hr.mono (by first | decide | omega)) (by rfl) D_can_end.m D_can_end.kp D_can_end.b .nil pass0 (pa_cons (pv 7) pa_nil)) (pa_cons (pe_cmpR op_le (pe_callB (cr_maxT rfl (room65 hr)) (by rfl) T.max (by decide +kernel) (pa_cons (pv 6) pa_nil)) (pe_op op_sub (pv 1) (pv 2)) (nomark _)) pa_nil))))))))))))))), ?_⟩
    obtain ⟨k1, k2, f1, f2, d1, d2, m1, m2, a1, a2, b1, b2, g1, g2, s1, s2⟩ := id o
    have ha' : SqT K H a [.int w1, .int w2, .int g] := ha
    refine ⟨_, rfl, _, rfl, _, rfl, _, rfl, _, rfl, a, _, 0, _, rfl, rfl, ha', atI_nat (j := 0) rfl, _, rfl, a, _, 1, _, rfl, rfl, ha', atI_nat (j := 1) rfl, _, rfl, a, _, 2, _, rfl, rfl, ha', atI_nat (j := 2) rfl, fun x dx hx hdx hne => ?_⟩
    refine ⟨x, dx, k, f, d, m, w1, w2, g, rfl, upd_same, ⟨k1, k2⟩, ⟨f1, f2⟩, ⟨d1, d2⟩, ⟨m1, hmk, m2⟩, ⟨a1, a2⟩, ⟨b1, b2⟩, ⟨g1, g2⟩, fun H1 hH1 hx1 => ⟨rfl, ?_⟩⟩
    have sm1 : Same H H1 := fun b u hb => hH1 b u (ne_of_none hb hx) (by rw [upd_ne (ne_of_none hb hx), upd_ne (ne_of_none hb hdx)]; exact hb)
    have hn1 : NumAt T.C_Numbers H1 x k f d m w1 w2 g := ⟨dx, hx1⟩
    have ha1 := seqT sm1 ha'
    -- twice, gone
    refine ⟨_, rfl, _, rfl, _, rfl, _, rfl, _, rfl, k, f, s, d, w1, w2, g, a, rfl, ha1, ⟨k1, k2⟩, f1, ⟨s1, s2⟩, a2, b2, g2, ?_⟩
    refine ⟨_, rfl, _, rfl, _, rfl, _, rfl, _, rfl, _, rfl, k, f, m, s, d, w1, w2, g, a, rfl, ha1, f1, m1, ⟨s1, s2⟩, ⟨d1, d2⟩, by omega, g2, fun H2 sm2 => ⟨_, _, rfl, ?_⟩⟩
    have ha2 := seqT sm2 ha1
    have hn2 := num_same sm2 hn1
    have sm02 := sm1.trans sm2
    clear hH1 hx1 hx hdx hne hn1 ha1
    -- single, lasting
    refine ⟨_, rfl, _, rfl, _, rfl, _, rfl, k, f, s, w1, w2, g, a, rfl, ha2, ?_⟩
    refine ⟨_, rfl, _, rfl, _, rfl, _, rfl, _, rfl, k, f, m, s, w1, w2, g, a, rfl, ha2, s1, m1, g2, _, _, rfl, ?_⟩
    -- told
    refine ⟨_, rfl, _, rfl, x, k, f, d, m, w1, w2, g, s, rfl, hn2, o, _, rfl, _, rfl, x, k, f, d, m, w1, w2, g, s, rfl, hn2, o, _, rfl, _, rfl, x, k, f, d, m, w1, w2, g, s, rfl, hn2, o, (by show 3 ≤ sizeLine; decide), fun t ht => ?_⟩
    have sm3 := same_new (o := .tup [.int (nearI k f w1 s), .int (farI k f w2 g s), .int (farI k f w2 g s - m)]) ht
    have ht3 : SqT K (upd H2 t (.tup [.int (nearI k f w1 s), .int (farI k f w2 g s), .int (farI k f w2 g s - m)])) t [.int (nearI k f w1 s), .int (farI k f w2 g s), .int (farI k f w2 g s - m)] := SqT.of upd_same
    have ha3 := seqT sm3 ha2
    have hn3 := num_same sm3 hn2
    have sm03 := sm02.trans sm3
    generalize upd H2 t (.tup [.int (nearI k f w1 s), .int (farI k f w2 g s), .int (farI k f w2 g s - m)]) = H3 at sm3 ht3 ha3 hn3 sm03 ⊢
    clear ht sm3 ha2 hn2 sm02 sm2
    -- far
    refine ⟨_, rfl, a, _, 1, _, rfl, rfl, ha3, atI_nat (j := 1) rfl, _, rfl, a, _, 2, _, rfl, rfl, ha3, atI_nat (j := 2) rfl, _, _, rfl, rfl, _, rfl, _, _, rfl, rfl, _, rfl, _, _, rfl, rfl, _, rfl, _, _, rfl, rfl, ?_⟩
    refine ⟨_, rfl, _, rfl, a, _, 0, _, rfl, rfl, ha3, atI_nat (j := 0) rfl, _, _, rfl, rfl, .inl ⟨by decide, by decide⟩, _, rfl, _, _, rfl, rfl, _, rfl, _, _, rfl, rfl, _, rfl, _, _, rfl, rfl, ?_⟩
    refine ⟨_, rfl, _, rfl, _, rfl, _, _, rfl, rfl, (by show 3 ≤ sizeLine; decide), fun u hu => ?_⟩
    have sm4 := same_new (o := .tup [.int (2 * w1 - k - f - s), .int (w2 + g - k - f - s), .int (w2 + g - k - f - s - m)]) hu
    refine ⟨.ref t, .ref u, _, rfl, dp3 (seqT sm4 ht3) (.int _) (.int _) (.int _), ?_, c_3 (sc_int _) (sc_int _) (sc_int _), fun H5 sm5 => ⟨_, rfl, iteF ?_⟩⟩
    · rw [show nearI k f w1 s = 2 * w1 - k - f - s by unfold nearI; omega, show farI k f w2 g s = w2 + g - k - f - s by unfold farI; omega]
      exact dp3 (SqT.of upd_same) (.int _) (.int _) (.int _)
    have sm35 := sm4.trans sm5
    have ha5 := seqT sm35 ha3
    have hn5 := num_same sm35 hn3
    have sm05 := sm03.trans sm35
    clear hu sm4 sm5 sm35 sm03 ha3 hn3 ht3
    -- single, lasting, safe
    refine ⟨_, rfl, _, rfl, x, k, f, d, m, w1, w2, g, s, rfl, hn5, o, _, rfl, _, rfl, x, k, f, d, m, w1, w2, g, s, rfl, hn5, o, _, rfl, _, rfl, x, k, f, d, m, w1, w2, g, s, rfl, hn5, o, (by show 3 ≤ sizeLine; decide), fun t6 ht6 => ?_⟩
    have sm6 := same_new (o := .tup [.bl (singleB k f w1 w2 g s), .bl (lastB k f m w2 g s), .bl (singleB k f w1 w2 g s && lastB k f m w2 g s)]) ht6
    have hT6 : SqT K (upd H5 t6 (.tup [.bl (singleB k f w1 w2 g s), .bl (lastB k f m w2 g s), .bl (singleB k f w1 w2 g s && lastB k f m w2 g s)])) t6 [.bl (singleB k f w1 w2 g s), .bl (lastB k f m w2 g s), .bl (singleB k f w1 w2 g s && lastB k f m w2 g s)] := SqT.of upd_same
    generalize upd H5 t6 (.tup [.bl (singleB k f w1 w2 g s), .bl (lastB k f m w2 g s), .bl (singleB k f w1 w2 g s && lastB k f m w2 g s)]) = H6 at sm6 hT6 ⊢
    refine ⟨_, rfl, _, rfl, fun v H' => v = .bl (singleB k f w1 w2 g s && lastB k f m w2 g s) ∧ H' = H6, ⟨_, rfl, and_rd (fun h1 => ⟨_, rfl, by rw [h1]; exact ⟨rfl, rfl⟩⟩) (fun h1 => by rw [h1]; exact ⟨rfl, rfl⟩)⟩, ?_⟩
    rintro v H' ⟨rfl, rfl⟩
    refine ⟨(by show 3 ≤ sizeLine; decide), fun p hp => ?_⟩
    refine ⟨_, _, _, rfl, dp3 (seqT (same_new hp) hT6) (.bl _) (.bl _) (.bl _), dp3 (SqT.of upd_same) (.bl _) (.bl _) (.bl _), c_3 (sc_bool _) (sc_bool _) (sc_bool _), fun H7 sm7 => ⟨_, rfl, iteF ?_⟩⟩
    have sm57 := sm6.trans ((same_new hp).trans sm7)
    have ha7 := seqT sm57 ha5
    have hn7 := num_same sm57 hn5
    have sm07 := sm05.trans sm57
    clear hp sm7 hT6 sm6 ht6 sm57 ha5 hn5 sm05
    -- twice, gone
    refine ⟨fun b H' => b = false ∧ Same H7 H', ?_, ?_⟩
    · refine ⟨_, rfl, _, rfl, rfl, rfl, _, rfl, ?_⟩
      have eg : V.bl (lastB k f m w2 g s) = V.bl (decide (optV (goneO k f d m w2 g s) = V.non)) := by
        rw [last_gone (d := d) s1 m1 g2]
        cases goneO k f d m w2 g s <;> rfl
      rw [decide_eq_true eg]
      refine iteF ?_
      refine ⟨_, rfl, _, rfl, x, k, f, d, m, w1, w2, g, s, rfl, hn7, o, _, rfl, _, rfl, x, k, f, d, m, w1, w2, g, s, rfl, hn7, o, (by show 2 ≤ sizeLine; decide), fun p hp => ?_⟩
      have sm8 := same_new (o := .tup [optV (twiceO k f d w1 w2 g s), optV (goneO k f d m w2 g s)]) hp
      have hp8 : SqT K (upd H7 p (.tup [optV (twiceO k f d w1 w2 g s), optV (goneO k f d m w2 g s)])) p [optV (twiceO k f d w1 w2 g s), optV (goneO k f d m w2 g s)] := SqT.of upd_same
      refine ⟨_, rfl, _, rfl, (by show 2 ≤ sizeLine; decide), fun p' hp' => ?_⟩
      exact ⟨_, _, _, rfl, dp2 (seqT (same_new hp') hp8) (dp_opt _) (dp_opt _), dp2 (SqT.of upd_same) (dp_opt _) (dp_opt _), c_2 (sc_opt _) (sc_opt _), fun H9 sm9 => ⟨_, rfl, rfl, sm8.trans ((same_new hp').trans sm9)⟩⟩
    rintro b H8 ⟨rfl, sm8⟩
    refine iteF ?_
    have ha8 := seqT sm8 ha7
    have hn8 := num_same sm8 hn7
    have sm08 := sm07.trans sm8
    clear sm8 ha7 hn7 sm07
    -- edges
    refine ⟨_, rfl, _, rfl, (by show 2 ≤ sizeLine; decide), fun p hp => ?_⟩
    have sm9 := same_new (o := .lst [optV (twiceO k f d w1 w2 g s), optV (goneO k f d m w2 g s)]) hp
    refine ⟨p, rfl, ⟨_, SqL.of upd_same⟩, fun D hD => ?_⟩
    refine lc_same (walk_list (xs := [optV (twiceO k f d w1 w2 g s), optV (goneO k f d m w2 g s)])) (by show 2 ≤ 100000; decide) hD ErI (fun _ _ _ _ _ _ h => h) (fun _ _ _ _ _ h => h) (fun i l => l = edgP (twiceO k f d w1 w2 g s) (goneO k f d m w2 g s) i) rfl (fun H4 sm4 => SqL.of (sm4 _ _ upd_same)) ?_ ?_
    · rintro i y H4 H5 l hi sm4 - rfl ⟨rfl, hx⟩ A B hA hB
      refine ⟨rfl, ?_⟩
      match i, hi, hx with
      | 0, _, e =>
        obtain rfl : optV (twiceO k f d w1 w2 g s) = y := Option.some.inj e
        cases hc : twiceO k f d w1 w2 g s with
        | none =>
          refine ⟨_, rfl, rfl, _, rfl, iteF (hB _ (Same.refl _) ?_)⟩
          rw [hc]; rfl
        | some z =>
          refine ⟨_, rfl, rfl, _, rfl, iteT ⟨_, rfl, hA _ _ _ (Same.refl _) rfl ?_⟩⟩
          rw [hc]; rfl
      | 1, _, e =>
        obtain rfl : optV (goneO k f d m w2 g s) = y := Option.some.inj e
        cases hc : goneO k f d m w2 g s with
        | none =>
          refine ⟨_, rfl, rfl, _, rfl, iteF (hB _ (Same.refl _) ?_)⟩
          rw [hc]; exact (List.append_nil _).symm
        | some z =>
          refine ⟨_, rfl, rfl, _, rfl, iteT ⟨_, rfl, hA _ _ _ (Same.refl _) rfl ?_⟩⟩
          rw [hc]; rfl
    rintro H10 us l sm10 hE10 hE rfl
    have e := hE.ints
    subst e
    have hEb : ∀ z ∈ edgP (twiceO k f d w1 w2 g s) (goneO k f d m w2 g s) 2, 0 ≤ z ∧ z ≤ 90000 := fun z hz => by
      unfold edgP at hz
      rcases List.mem_append.mp hz with hz | hz
      · exact twice_bd o (Option.mem_toList.mp hz)
      · exact gone_bd o (Option.mem_toList.mp hz)
    have hEl : (edgP (twiceO k f d w1 w2 g s) (goneO k f d m w2 g s) 2).length ≤ 2 := by
      show ((twiceO k f d w1 w2 g s).toList ++ (goneO k f d m w2 g s).toList).length ≤ 2
      cases twiceO k f d w1 w2 g s <;> cases goneO k f d m w2 g s <;> simp
    have hfor := for_all (twiceO k f d w1 w2 g s) (goneO k f d m w2 g s)
    have hE10' : H10 D = some (.lst ((edgP (twiceO k f d w1 w2 g s) (goneO k f d m w2 g s) 2).map V.int)) := hE10
    generalize edgP (twiceO k f d w1 w2 g s) (goneO k f d m w2 g s) 2 = ed at hEb hEl hfor hE10'
    have sm810 := sm9.trans sm10
    have ha10 := seqT sm810 ha8
    have hn10 := num_same sm810 hn8
    have sm010 := sm08.trans sm810
    have hDn := (sm08.trans sm9).free hD
    obtain ⟨nDw, nDq⟩ := hh.ne hDn
    have hh10 := hh.same sm010
    clear sm9 sm10 hE hE10 hp sm810 ha8 hn8 sm08 hD hDn
    refine ⟨fun v H' => ∃ (p3 : Addr) (xs : List Int), v = .ref p3 ∧ H' p3 = some (.lst (xs.map V.int)) ∧ (∀ z ∈ xs, 0 ≤ z ∧ z ≤ 90000) ∧ SqT K H' a [.int w1, .int w2, .int g] ∧ NumAt T.C_Numbers H' x k f d m w1 w2 g ∧ H' D = some (.lst (ed.map V.int)) ∧ HeapAt H' w q ∧ Frm w q H H', ?_, ?_⟩
    case refine_1 =>
      refine ⟨_, rfl, _, rfl, _, _, rfl, rfl, _, rfl, _, _, rfl, rfl, .inl ⟨by decide, by decide⟩, _, rfl, _, _, rfl, rfl, .inl ⟨by decide, by decide⟩, _, _, rfl, rfl, _, rfl, w, q, 201, rfl, hh10, by decide, by decide, fun r H11 r0 r1 fr11 hh11 => ⟨(by show 7 ≤ sizeLine; decide), fun p hp => ?_⟩⟩
      have ha11 := seqT_frm fr11 hh10 ha10
      have hn11 := num_frm fr11 hh10 hn10
      have hD11 := fr11 _ _ nDw nDq hE10'
      have fr011 : Frm w q H H11 := (Frm.same sm010).trans fr11
      have s12 := same_new (o := .lst [.int 0, .int 1, .int d, .int (d + 1), .int (2 * d), .int (2 * d + 1), .int r]) hp
      refine ⟨_, rfl, p, D, _, _, rfl, rfl, upd_same, s12 _ _ hD11, by rw [List.length_map]; exact Nat.le_trans (Nat.add_le_add_left hEl 7) (by show 9 ≤ sizeLine; decide), fun p2 hp2 => ?_⟩
      dsimp only
      have s13 := s12.trans (same_new (o := .lst ([.int 0, .int 1, .int d, .int (d + 1), .int (2 * d), .int (2 * d + 1), .int r] ++ ed.map V.int)) hp2)
      have hp13 : upd (upd H11 p (.lst [.int 0, .int 1, .int d, .int (d + 1), .int (2 * d), .int (2 * d + 1), .int r])) p2 (.lst ([.int 0, .int 1, .int d, .int (d + 1), .int (2 * d), .int (2 * d + 1), .int r] ++ ed.map V.int)) p2 = some (.lst ([.int 0, .int 1, .int d, .int (d + 1), .int (2 * d), .int (2 * d + 1), .int r] ++ ed.map V.int)) := upd_same
      refine ⟨_, rfl, D, rfl, ⟨_, SqL.of (s13 _ _ hD11)⟩, ?_⟩
      generalize upd (upd H11 p (.lst [.int 0, .int 1, .int d, .int (d + 1), .int (2 * d), .int (2 * d + 1), .int r])) p2 (.lst ([.int 0, .int 1, .int d, .int (d + 1), .int (2 * d), .int (2 * d + 1), .int r] ++ ed.map V.int)) = H13 at s13 hp13 ⊢
      have ha13 := seqT s13 ha11
      have hn13 := num_same s13 hn11
      have hD13 := s13 _ _ hD11
      have hh13 := hh11.same s13
      have fr013 : Frm w q H H13 := fr011.trans (Frm.same s13)
      clear hp hp2 s12 s13 ha11 hn11 hD11 fr011 fr11 hh11 hh10 hn10 ha10 hE10' sm010
      intro D2 hD2
      refine lc_same (walk_list (xs := ed.map V.int)) (by rw [List.length_map]; omega) hD2 ErI (fun _ _ _ _ _ _ h => h) (fun _ _ _ _ _ h => h) (fun i l => l.length ≤ i ∧ ∀ z ∈ l, 0 ≤ z ∧ z ≤ 90000) ⟨Nat.le_refl _, by simp⟩ (fun H4 sm4 => SqL.of (sm4 _ _ hD13)) ?_ ?_
      · rintro i y H4 H5 l hi sm4 - ⟨hl1, hl2⟩ ⟨rfl, hx⟩ A B hA hB
        obtain ⟨z, rfl, hz⟩ := mem_ints hx
        have hzb := hEb z (List.mem_of_getElem? hz)
        refine ⟨rfl, ?_⟩
        refine ⟨_, rfl, _, _, rfl, rfl, _, rfl, ite_dec (fun h => ?_) (fun h => ?_)⟩
        · refine ⟨_, rfl, _, _, rfl, rfl, hA _ _ _ (Same.refl _) rfl ⟨by rw [List.length_append]; exact Nat.succ_le_succ hl1, fun z' hz' => ?_⟩⟩
          rcases List.mem_append.mp hz' with hz' | hz'
          · exact hl2 _ hz'
          · rw [List.mem_singleton.mp hz']
            omega
        · exact hB _ (Same.refl _) ⟨Nat.le_succ_of_le hl1, hl2⟩
      rintro H14 us l sm14 hE14 hE ⟨hl1, hl2⟩
      have e := hE.ints
      subst e
      rw [List.length_map] at hl1
      refine ⟨p2, D2, _, _, rfl, rfl, sm14 _ _ hp13, hE14, by rw [List.length_append, List.length_map, List.length_map]; exact Nat.le_trans (Nat.add_le_add (Nat.add_le_add_left hEl 7) (Nat.le_trans hl1 hEl)) (by show 11 ≤ sizeLine; decide), fun p3 hp3 => ?_⟩
      rw [show ([V.int 0, .int 1, .int d, .int (d + 1), .int (2 * d), .int (2 * d + 1), .int r] ++ ed.map V.int) ++ l.map V.int = (([0, 1, d, d + 1, 2 * d, 2 * d + 1, r] ++ ed) ++ l).map V.int by rw [List.map_append, List.map_append]; rfl]
      have hxb : ∀ z ∈ ([0, 1, d, d + 1, 2 * d, 2 * d + 1, r] ++ ed) ++ l, 0 ≤ z ∧ z ≤ 90000 := fun z hz => by
        rcases List.mem_append.mp hz with hz | hz
        · rcases List.mem_append.mp hz with hz | hz
          · simp only [List.mem_cons, List.not_mem_nil, or_false] at hz
            omega
          · exact hEb z hz
        · exact hl2 z hz
      generalize ([0, 1, d, d + 1, 2 * d, 2 * d + 1, r] ++ ed) ++ l = xs at hxb ⊢
      have s15 := sm14.trans (same_new (o := .lst (xs.map V.int)) hp3)
      have hp15 : upd H14 p3 (.lst (xs.map V.int)) p3 = some (.lst (xs.map V.int)) := upd_same
      generalize upd H14 p3 (.lst (xs.map V.int)) = H15 at s15 hp15 ⊢
      exact ⟨p3, xs, rfl, hp15, hxb, seqT s15 ha13, num_same s15 hn13, s15 _ _ hD13, hh13.same s15, fr013.trans (Frm.same s15)⟩
    rintro v H15 ⟨p3, xs, rfl, hp15, hxb, ha15, hn15, hD15, hh15, fr015⟩
    clear ha10 hn10 sm010 hE10' hh10
    refine ⟨p3, rfl, ⟨_, SqL.of hp15⟩, for_list (xs := xs.map V.int) (fun i σ H' => ∃ y z, σ = [some (.ref w), some (.int k), some (.int f), some (.int m), some (.int s), some (.int d), some (.ref a), some (.ref x), some (optV (twiceO k f d w1 w2 g s)), some (optV (goneO k f d m w2 g s)), some (.bl (singleB k f w1 w2 g s)),
      some (.bl (lastB k f m w2 g s)), some (.ref t), some (.int (w2 + g - k - f - s)), some (.ref D), y, z] ∧ Same H15 H') ⟨none, none, rfl, Same.refl _⟩ (fun i σ H' _ ⟨_, _, _, sm⟩ => SqL.of (sm _ _ hp15)) ?_ ?_⟩
    · rintro i y σ H16 hy ⟨y0, z0, rfl, sm16⟩
      obtain ⟨words, rfl, hw⟩ := mem_ints hy
      have hwb := hxb words (List.mem_of_getElem? hw)
      have ha16 := seqT sm16 ha15
      have hn16 := num_same sm16 hn15
      have hD16 := sm16 _ _ hD15
      refine ⟨_, rfl, _, rfl, _, rfl, x, k, f, d, m, w1, w2, g, s, words, rfl, hn16, o, fun H17 sm17 => ?_⟩
      refine ⟨_, rfl, D, rfl, ⟨_, SqL.of (sm17 _ _ hD16)⟩, fun D3 hD3 => ?_⟩
      refine lc_same (walk_list (xs := ed.map V.int)) (by rw [List.length_map]; omega) hD3 ErB (fun _ _ _ _ _ _ h => h) (fun _ _ _ _ _ h => h) (fun j l => l = (ed.take j).map fun x => decide (words < x)) rfl (fun H4 sm4 => SqL.of (sm4 _ _ (sm17 _ _ hD16))) ?_ ?_
      · rintro j y H4 H5 l hj sm4 - rfl ⟨rfl, hx⟩ A B hA hB
        obtain ⟨z, rfl, hz⟩ := mem_ints hx
        refine ⟨rfl, t_yes ?_⟩
        refine ⟨_, rfl, _, rfl, _, _, rfl, rfl, hA _ _ _ (Same.refl _) rfl ?_⟩
        rw [List.take_succ, hz, List.map_append]
        rfl
      · rintro H18 us l sm18 hE18 hE rfl
        have e := ers_bls hE
        subst e
        refine ⟨D3, _, rfl, SqL.of hE18, ?_⟩
        rw [List.length_map, List.take_length, hfor]
        refine ⟨_, _, _, rfl, .bl _, .bl _, sc_bool _, fun H19 sm19 => ⟨_, rfl, iteF ?_⟩⟩
        have sm1619 := (sm17.trans sm18).trans sm19
        have ha19 := seqT sm1619 ha16
        have hn19 := num_same sm1619 hn16
        refine ⟨_, rfl, _, rfl, _, rfl, x, k, f, d, m, w1, w2, g, s, words, rfl, hn19, o, hwb.1, by omega, ?_⟩
        refine ⟨_, rfl, _, rfl, _, rfl, _, rfl, _, rfl, _, rfl, _, rfl, k, f, m, s, d, w1, w2, g, words, a, rfl, ha19, f1, m1, ⟨s1, s2⟩, ⟨d1, d2⟩, by omega, g2, ⟨hwb.1, by omega⟩, ?_⟩
        refine ⟨_, _, _, rfl, .int _, .int _, sc_int _, fun H20 sm20 => ⟨_, rfl, iteF ?_⟩⟩
        exact ⟨_, _, rfl, (sm16.trans sm1619).trans sm20⟩
    · rintro σ H16 ⟨y0, z0, rfl, sm16⟩
      have ha16 := seqT sm16 ha15
      have hn16 := num_same sm16 hn15
      refine ⟨_, rfl, x, k, f, d, m, w1, w2, g, rfl, hn16, o.at0, ?_⟩
      refine ⟨_, rfl, a, w1, [w2, g], rfl, ha16, _, rfl, _, rfl, _, _, rfl, rfl, _, _, rfl, rfl, ?_⟩
      refine ⟨_, _, .bool (decide (mx (mx w1 w2) g ≤ k - f)), rfl, .bl _, ?_, sc_bool _, fun H17 sm17 => fin _ (fr015.trans (Frm.same (sm16.trans sm17))) (hh15.same (sm16.trans sm17))⟩
      rw [← max_mx]
      exact .bl _
end
end K26

namespace K26
theorem safe_iff {k f m w1 w2 g s : Int} (hm : 1 ≤ m) : safeB k f m w1 w2 g s = true ↔ (0 < 2 * w1 - k - s - f ∧ (s = 0 → f + m ≤ w2) ∧ (s ≠ 0 → m ≤ g + w2 - k - s - f)) := by
  unfold safeB singleB lastB nearI farI
  by_cases hs : s = 0
  · rw [decide_eq_true hs, Bool.true_or, Bool.and_true, if_pos hs, Bool.and_eq_true, decide_eq_true_eq, decide_eq_true_eq]
    exact ⟨fun h => ⟨h.1, fun _ => h.2, fun z => (z hs).elim⟩, fun h => ⟨h.1, h.2.1 hs⟩⟩
  · rw [show decide (s = 0) = false from decide_eq_false hs, Bool.false_or, if_neg hs]
    simp only [Bool.and_eq_true, decide_eq_true_eq]
    exact ⟨fun h => ⟨h.1.1, fun z => (hs z).elim, fun _ => by omega⟩, fun h => ⟨⟨h.1, by have := h.2.2 hs; omega⟩, by have := h.2.2 hs; omega⟩⟩
theorem single_iff {k f w1 w2 g s : Int} : singleB k f w1 w2 g s = true ↔ (0 < 2 * w1 - k - s - f ∧ (s ≠ 0 → 0 < g + w2 - k - s - f)) := by
  unfold singleB nearI farI
  simp only [Bool.and_eq_true, Bool.or_eq_true, decide_eq_true_eq]
  constructor
  · rintro ⟨h1, h2⟩
    exact ⟨h1, fun z => h2.resolve_left z⟩
  · rintro ⟨h1, h2⟩
    refine ⟨h1, ?_⟩
    by_cases z : s = 0
    · exact .inl z
    · exact .inr (h2 z)
theorem mn_cases (a b : Int) : (mn a b = b ∧ b < a) ∨ (mn a b = a ∧ a ≤ b) := by unfold mn; split <;> omega
theorem liars_le {k f m w1 w2 g s x : Int} (hm : 1 ≤ m) : safeB k x m w1 w2 g s = true ↔ x ≤ liarsM k f m w1 w2 g s := by
  rw [safe_iff hm]
  unfold liarsM nearI farI
  by_cases hs : s = 0
  · rw [if_pos hs]
    have c := mn_cases (2 * w1 - k - s - f + f - 1) (w2 - m)
    exact ⟨fun h => by have := h.2.1 hs; omega, fun h => ⟨by omega, fun _ => by omega, fun z => (z hs).elim⟩⟩
  · rw [if_neg hs]
    have c := mn_cases (2 * w1 - k - s - f + f - 1) (g + w2 - k - s - f - m + f)
    exact ⟨fun h => by have := h.2.2 hs; omega, fun h => ⟨by omega, fun z => (hs z).elim, fun _ => by omega⟩⟩
/-- a list of the good ones among lo .. hi, hi left out -/
def Good (l : List Int) (lo hi : Int) (p : Int → Bool) : Prop := ∀ x, x ∈ l ↔ (lo ≤ x ∧ x < hi ∧ p x = true)
theorem Good.nil {lo : Int} {p : Int → Bool} : Good [] lo (lo + ((0 : Nat) : Int)) p := fun x => ⟨fun h => (by cases h), fun h => by omega⟩
theorem Good.yes {l : List Int} {lo : Int} {i : Nat} {p : Int → Bool} (h : Good l lo (lo + (i : Int)) p) (hp : p (lo + (i : Int)) = true) : Good (l ++ [lo + (i : Int)]) lo (lo + ((i + 1 : Nat) : Int)) p := fun x => by
  rw [List.mem_append, List.mem_singleton, h x]
  constructor
  · rintro (h | rfl)
    · exact ⟨h.1, by omega, h.2.2⟩
    · exact ⟨by omega, by omega, hp⟩
  · rintro ⟨h1, h2, h3⟩
    by_cases z : x = lo + (i : Int)
    · exact .inr z
    · exact .inl ⟨h1, by omega, h3⟩
theorem Good.no {l : List Int} {lo : Int} {i : Nat} {p : Int → Bool} (h : Good l lo (lo + (i : Int)) p) (hp : p (lo + (i : Int)) = false) : Good l lo (lo + ((i + 1 : Nat) : Int)) p := fun x => by
  rw [h x]
  constructor
  · rintro ⟨h1, h2, h3⟩
    exact ⟨h1, by omega, h3⟩
  · rintro ⟨h1, h2, h3⟩
    refine ⟨h1, ?_, h3⟩
    by_cases z : x = lo + (i : Int)
    · rw [z, hp] at h3; cases h3
    · omega
/-- the greatest of a list's numbers, as the program says it -/
def MaxIs (l : List Int) (o : Option Int) : Prop := (l = [] → o = none) ∧ ∀ b ∈ l, (∀ y ∈ l, y ≤ b) → o = some b
theorem maxIs {l : List Int} {lo hi : Int} {p : Int → Bool} {o : Option Int} (h : Good l lo hi p) (h0 : (∀ x, lo ≤ x → x < hi → p x = false) → o = none) (h1 : ∀ b, lo ≤ b → b < hi → p b = true → (∀ y, lo ≤ y → y < hi → p y = true → y ≤ b) → o = some b) : MaxIs l o := by
  refine ⟨fun e => h0 fun x a b => ?_, fun b hb hy => ?_⟩
  · cases hp : p x with
    | false => rfl
    | true =>
      have := (h x).mpr ⟨a, b, hp⟩
      rw [e] at this
      cases this
  · obtain ⟨a1, a2, a3⟩ := (h b).mp hb
    exact h1 b a1 a2 a3 fun y b1 b2 b3 => hy y ((h y).mpr ⟨b1, b2, b3⟩)
theorem liars_max {l : List Int} {k f m w1 w2 g s : Int} (hk : 0 ≤ k) (hm : 1 ≤ m) (h : Good l 0 (k + 1) (fun x => safeB k x m w1 w2 g s)) : MaxIs l (liarsO k f m w1 w2 g s) := by
  refine maxIs h (fun h0 => ?_) (fun b b0 b1 hb hy => ?_)
  · have := h0 0 (by omega) (by omega)
    have n : ¬ 0 ≤ liarsM k f m w1 w2 g s := fun z => by
      have e := (liars_le (f := f) hm).mpr z
      rw [show safeB k 0 m w1 w2 g s = false from this] at e
      cases e
    unfold liarsO
    rw [if_neg n]
  · have hb' := (liars_le (f := f) hm).mp hb
    unfold liarsO
    rw [if_pos (by omega)]
    have c := mn_cases (liarsM k f m w1 w2 g s) k
    have := hy (mn (liarsM k f m w1 w2 g s) k) (by omega) (by omega) ((liars_le (f := f) hm).mpr (by omega))
    congr 1
    omega
theorem spread_max {l : List Int} {k f m w1 w2 g : Int} (hk : 0 ≤ k) (hm : 1 ≤ m) (hg : g ≤ k) (h : Good l 0 (k + 1) (fun x => safeB k f m w1 w2 g x)) : MaxIs l (spreadO k f m w1 w2 g) := by
  have key : ∀ x, 1 ≤ x → (safeB k f m w1 w2 g x = true ↔ x ≤ spreadM k f m w1 w2 g) := fun x hx => by
    rw [safe_iff hm]
    unfold spreadM nearI farI
    have c := mn_cases (2 * w1 - k - 0 - f - 1) (g + w2 - k - 0 - f - m)
    exact ⟨fun h => by have := h.2.2 (by omega); omega, fun h => ⟨by omega, fun z => by omega, fun _ => by omega⟩⟩
  have zero : ∀ x, 0 ≤ x → safeB k f m w1 w2 g x = true → safeB k f m w1 w2 g 0 = true := fun x hx h => by
    by_cases z : x = 0
    · rw [← z]; exact h
    · rw [safe_iff hm] at h ⊢
      have := h.2.2 z
      exact ⟨by omega, fun _ => by omega, fun z => (z rfl).elim⟩
  refine maxIs h (fun h0 => ?_) (fun b b0 b1 hb hy => ?_)
  · have := h0 0 (by omega) (by omega)
    unfold spreadO
    rw [show safeB k f m w1 w2 g 0 = false from this, if_neg Bool.false_ne_true]
  · have h00 := zero b b0 hb
    unfold spreadO
    rw [if_pos h00]
    have c := mn_cases (spreadM k f m w1 w2 g) k
    have d := mx_cases 0 (mn (spreadM k f m w1 w2 g) k)
    congr 1
    by_cases z : 1 ≤ mn (spreadM k f m w1 w2 g) k
    · have h1 := hy (mn (spreadM k f m w1 w2 g) k) (by omega) (by omega) ((key _ z).mpr (by omega))
      have h2 := (key b (by omega)).mp hb
      omega
    · have h1 := hy 0 (by omega) (by omega) h00
      by_cases z2 : 1 ≤ b
      · have h2 := (key b z2).mp hb
        omega
      · omega
theorem pieces_max {l : List Int} {k f w1 w2 g s : Int} (hk : 1 ≤ k) (h : Good l 1 (mn k 6 + 1) (fun x => safeB k f x w1 w2 g s)) : MaxIs l (piecesO k f w1 w2 g s) := by
  have key : ∀ x, 1 ≤ x → (safeB k f x w1 w2 g s = true ↔ (singleB k f w1 w2 g s = true ∧ x ≤ piecesM k f w2 g s)) := fun x hx => by
    rw [safe_iff hx, single_iff]
    unfold piecesM farI
    by_cases hs : s = 0
    · rw [if_pos hs]
      exact ⟨fun h => ⟨⟨h.1, fun z => (z hs).elim⟩, by have := h.2.1 hs; omega⟩, fun h => ⟨h.1.1, fun _ => by omega, fun z => (z hs).elim⟩⟩
    · rw [if_neg hs]
      exact ⟨fun h => ⟨⟨h.1, fun z => by have := h.2.2 hs; omega⟩, by have := h.2.2 hs; omega⟩, fun h => ⟨h.1.1, fun z => (hs z).elim, fun _ => by omega⟩⟩
  have c0 := mn_cases k 6
  refine maxIs h (fun h0 => ?_) (fun b b0 b1 hb hy => ?_)
  · unfold piecesO
    cases hsi : singleB k f w1 w2 g s with
    | false => rw [if_neg Bool.false_ne_true]
    | true =>
      have := h0 1 (by omega) (by omega)
      have n : ¬ piecesM k f w2 g s > 0 := fun z => by
        have e := (key 1 (by omega)).mpr ⟨hsi, by omega⟩
        rw [show safeB k f 1 w1 w2 g s = false from this] at e
        cases e
      rw [if_pos rfl, if_neg n]
  · have hb' := (key b b0).mp hb
    unfold piecesO
    rw [if_pos hb'.1, if_pos (by omega)]
    have c1 := mn_cases (piecesM k f w2 g s) k
    have c2 := mn_cases (mn (piecesM k f w2 g s) k) 6
    have := hy (mn (mn (piecesM k f w2 g s) k) 6) (by omega) (by omega) ((key _ (by omega)).mpr ⟨hb'.1, by omega⟩)
    congr 1
    omega
end K26

namespace K26
open PySem PySem.Spec PyProof.Rows L2 Hl
section
variable {P : Program} {w : World} {K : PySem.W.Frag} {mg : Str → Option Value} {base : Heap}
/-- is a list of ints another one than [] -/
theorem ne_nil {H1 : Hp} {cs : List Int} {q p : Addr} {R : VK} (h1 : H1 q = some (.lst (cs.map V.int))) (h2 : H1 p = none) (r : R (.bl (!cs.isEmpty)) (upd H1 p (.lst []))) : rNeD K (.ref q) (.ref p) (upd H1 p (.lst [])) R := by
  refine ⟨.list (cs.map PyData.int), .list [], .lst (SqL.of (by rw [upd_ne (ne_of_none h1 h2)]; exact h1)) (dps_ints cs), .lst (SqL.of upd_same) .nil, shaped_ints cs, rfl, ?_⟩
  cases cs with
  | nil => exact r
  | cons c r' => exact r
def sp_borne (K : PySem.W.Frag) : Sp := fun vs H Q _ => ∃ (k f d m w1 w2 g s : Int) (a : Addr), vs = [.int k, .int f, .int m, .int s, .int d, .ref a] ∧ TriAt K H a w1 w2 g ∧ Ok k f d m w1 w2 g s ∧ m ≤ k ∧ ∀ H', Same H H' → Q (.bl true) H'
theorem ok_borne {f : Addr} {fd : FuncData} (F : Fun K "_law_asked_borne" "_law_asked_borne" s__law_asked_borne f fd) (T : Txt K mg)
    {fdI : FuncData} (GI_Numbers : FnOk P w K mg base CX0 3 T.fI fdI ["self", "k", "f", "d", "m", "w1", "w2", "g"] (sp_Numbers_init T.C_Numbers)) (bI_Numbers : Binds K fdI ["self", "k", "f", "d", "m", "w1", "w2", "g"] [])
    (D__law_safe : Df P w K mg base 2 "_law_safe" ["k", "f", "m", "spread", "triple"] (sp_Lsafe K)) (D_liars_borne : Df P w K mg base 3 "liars_borne" ["numbers", "spread"] (spNum T.C_Numbers fun k f d m w1 w2 g s => optV (liarsO k f m w1 w2 g s)))
    (D_spread_borne : Df P w K mg base 5 "spread_borne" ["numbers"] (spNum1 T.C_Numbers fun k f d m w1 w2 g => optV (spreadO k f m w1 w2 g))) (D_pieces_borne : Df P w K mg base 3 "pieces_borne" ["numbers", "spread"] (spNum T.C_Numbers fun k f d m w1 w2 g s => optV (piecesO k f w1 w2 g s)))
    (D__law_like : Df P w K mg base 3 "_law_like" ["told", "due"] (spLike K C2)) :
    FnOk P w K mg base CX0 7 f fd ["k", "f", "m", "spread", "d", "triple"] (sp_borne K) := by
  refine F.ok sc__law_asked_borne (fun vs H Q E h => ?_) (fun cdv A outer st H vs Q E hr h => ?_)
  · obtain ⟨_, _, _, _, _, _, _, _, _, rfl, _⟩ := h
    rfl
  · obtain ⟨k, f, d, m, w1, w2, g, s, a, rfl, ha, o, hmk, fin⟩ := h
    refine ⟨_, (pss_cons (ps_set (i := 6) sc__law_asked_borne.nd rfl (by first | exact Or.inl rfl | exact Or.inr rfl) (pe_make T.mk_Numbers GI_Numbers (hr.mono (by first | decide | omega)) (by rfl) T.m_Numbers bI_Numbers .nil pass0 (pa_cons (pv 0) (pa_cons (pv 1) (pa_cons (pv 4) (pa_cons (pv 2) (pa_cons (pe_ix ix_tup (pv 5) pe_int (fun _ _ => rfl)) (pa_cons (pe_ix ix_tup (pv 5) pe_int (fun _ _ => rfl)) (pa_cons (pe_ix ix_tup (pv 5) pe_int (fun _ _ => rfl)) pa_nil)))))))))
  (pss_cons (ps_setLc (i := 7) (own := [("many", 10)]) (by rfl) sc__law_asked_borne.nd rfl rfl (sw_true rfl rfl rfl (by decide +kernel)) (pi_range1 (by rfl) T.range (pa_cons (pe_op op_add (pv 0) pe_int) pa_nil)) (blkOk_by (own := [("many", 10)]) (N := N__law_asked_borne) (sc := defScope s__law_asked_borne) (by decide +kernel)) (fun _ _ _ _ _ => (pg_name (i := 10) sc__law_asked_borne.nd rfl (by first | exact Or.inl rfl | exact Or.inr rfl))) (fun _ _ _ _ _ => (pts_one (pt_val (pe_call D__law_safe.ok (hr.mono (by first | decide | omega)) (by rfl) D__law_safe.m D__law_safe.kp D__law_safe.b .nil pass0 (pa_cons (pv 0) (pa_cons (pv 10) (pa_cons (pv 2) (pa_cons (pv 3) (pa_cons (pv 5) pa_nil))))))))) (fun _ _ _ _ _ => (pv 10)))
  (pss_cons (ps_setLc (i := 8) (own := [("many", 10)]) (by rfl) sc__law_asked_borne.nd rfl rfl (sw_true rfl rfl rfl (by decide +kernel)) (pi_range1 (by rfl) T.range (pa_cons (pe_op op_add (pv 0) pe_int) pa_nil)) (blkOk_by (own := [("many", 10)]) (N := N__law_asked_borne) (sc := defScope s__law_asked_borne) (by decide +kernel)) (fun _ _ _ _ _ => (pg_name (i := 10) sc__law_asked_borne.nd rfl (by first | exact Or.inl rfl | exact Or.inr rfl))) (fun _ _ _ _ _ => (pts_one (pt_val (pe_call D__law_safe.ok (hr.mono (by first | decide | omega)) (by rfl) D__law_safe.m D__law_safe.kp D__law_safe.b .nil pass0 (pa_cons (pv 0) (pa_cons (pv 1) (pa_cons (pv 2) (pa_cons (pv 10) (pa_cons (pv 5) pa_nil))))))))) (fun _ _ _ _ _ => (pv 10)))
  (pss_cons (ps_setLc (i := 9) (own := [("many", 10)]) (by rfl) sc__law_asked_borne.nd rfl rfl (sw_true rfl rfl rfl (by decide +kernel)) (pi_range2 (by rfl) T.range (pa_cons pe_int (pa_cons (pe_op op_add (pe_callB (call_min2 rfl) (by rfl) T.min (by decide +kernel) (pa_cons (pv 0) (pa_cons pe_int pa_nil))) pe_int) pa_nil))) (blkOk_by (own := [("many", 10)]) (N := N__law_asked_borne) (sc := defScope s__law_asked_borne) (by decide +kernel)) (fun _ _ _ _ _ => (pg_name (i := 10) sc__law_asked_borne.nd rfl (by first | exact Or.inl rfl | exact Or.inr rfl))) (fun _ _ _ _ _ => (pts_one (pt_val (pe_call D__law_safe.ok (hr.mono (by first | decide | omega)) (by rfl) D__law_safe.m D__law_safe.kp D__law_safe.b .nil pass0 (pa_cons (pv 0) (pa_cons (pv 1) (pa_cons (pv 10) (pa_cons (pv 3) (pa_cons (pv 5) pa_nil))))))))) (fun _ _ _ _ _ => (pv 10)))
  (pss_cons (ps_if (pt_not (pt_val (pe_call D__law_like.ok (hr.mono (by first | decide | omega)) (by rfl) D__law_like.m D__law_like.kp D__law_like.b .nil pass0 (pa_cons (pe_call D_liars_borne.ok (hr.mono (by first | decide | omega)) (by rfl) D_liars_borne.m D_liars_borne.kp D_liars_borne.b .nil pass0 (pa_cons (pv 6) (pa_cons (pv 3) pa_nil))) (pa_cons (pe_cut (pe_ifExp (pt_cmpR (op_neD hr.units) (pv 7) (pe_lst pa_nil) (nomark _)) (pe_callB (cr_max rfl) (by rfl) T.max (by decide +kernel) (pa_cons (pv 7) pa_nil)) pe_non)) pa_nil)))))
  (pss_one (ps_ret pe_bl))
  pss_nil)
  (pss_cons (ps_if (pt_not (pt_val (pe_call D__law_like.ok (hr.mono (by first | decide | omega)) (by rfl) D__law_like.m D__law_like.kp D__law_like.b .nil pass0 (pa_cons (pe_call D_spread_borne.ok (hr.mono (by first | decide | omega)) (by rfl) D_spread_borne.m D_spread_borne.kp D_spread_borne.b .nil pass0 (pa_cons (pv 6) pa_nil)) (pa_cons (pe_cut (pe_ifExp (pt_cmpR (op_neD hr.units) (pv 8) (pe_lst pa_nil) (nomark _)) (pe_callB (cr_max rfl) (by rfl) T.max (by decide +kernel) (pa_cons (pv 8) pa_nil)) pe_non)) pa_nil)))))
  (pss_one (ps_ret pe_bl))
  pss_nil)
  (pss_one (ps_ret (pe_call D__law_like.ok (hr.mono (by first | decide | omega)) (by rfl) D__law_like.m D__law_like.kp D__law_like.b .nil pass0 (pa_cons (pe_call D_pieces_borne.ok (hr.mono (by first | decide | omega)) (by rfl) D_pieces_borne.m D_pieces_borne.kp D_pieces_borne.b .nil pass0 (pa_cons (pv 6) (pa_cons (pv 3) pa_nil))) (pa_cons (pe_cut (pe_ifExp (pt_cmpR (op_neD hr.units) (pv 9) (pe_lst pa_nil) (nomark _)) (pe_callB (cr_max rfl) (by rfl) T.max (by decide +kernel) (pa_cons (pv 9) pa_nil)) pe_non)) pa_nil))))))))))), ?_⟩
    obtain ⟨k1, k2, f1, f2, d1, d2, m1, m2, a1, a2, b1, b2, g1, g2, s1, s2⟩ := id o
    have ha' : SqT K H a [.int w1, .int w2, .int g] := ha
    refine ⟨_, rfl, _, rfl, _, rfl, _, rfl, _, rfl, a, _, 0, _, rfl, rfl, ha', atI_nat (j := 0) rfl, _, rfl, a, _, 1, _, rfl, rfl, ha', atI_nat (j := 1) rfl, _, rfl, a, _, 2, _, rfl, rfl, ha', atI_nat (j := 2) rfl, fun x dx hx hdx hne => ?_⟩
    refine ⟨x, dx, k, f, d, m, w1, w2, g, rfl, upd_same, ⟨k1, k2⟩, ⟨f1, f2⟩, ⟨d1, d2⟩, ⟨m1, hmk, m2⟩, ⟨a1, a2⟩, ⟨b1, b2⟩, ⟨g1, g2⟩, fun H1 hH1 hx1 => ⟨rfl, ?_⟩⟩
    have sm1 : Same H H1 := fun b u hb => hH1 b u (ne_of_none hb hx) (by rw [upd_ne (ne_of_none hb hx), upd_ne (ne_of_none hb hdx)]; exact hb)
    have hn1 : NumAt T.C_Numbers H1 x k f d m w1 w2 g := ⟨dx, hx1⟩
    have ha1 := seqT sm1 ha'
    clear hH1 hx1 hx hdx hne
    have nn : ∀ {n : Int}, 0 ≤ n → (0 : Int) + ((n.toNat : Nat) : Int) = n := fun h => by omega
    -- liars
    refine ⟨_, rfl, _, _, rfl, rfl, k + 1, rfl, by omega, by omega, fun D hD => ?_⟩
    refine lc_same (walk_range (lo := 0) (n := (k + 1).toNat)) (by omega) hD ErI (fun _ _ _ _ _ _ h => h) (fun _ _ _ _ _ h => h) (fun i l => l.length ≤ i ∧ Good l 0 (0 + (i : Int)) fun x => safeB k x m w1 w2 g s) ⟨Nat.le_refl _, Good.nil⟩ (fun _ _ => trivial) ?_ ?_
    · rintro i y H4 H5 l hi sm4 - ⟨hl1, hl2⟩ ⟨rfl, rfl⟩ A B hA hB
      refine ⟨rfl, ?_⟩
      refine ⟨_, rfl, _, rfl, _, rfl, _, rfl, _, rfl, k, 0 + (i : Int), m, s, w1, w2, g, a, rfl, seqT sm4 ha1, s1, m1, g2, _, rfl, if_b (fun h => ?_) (fun h => ?_)⟩
      · exact ⟨_, rfl, hA _ _ _ (Same.refl _) rfl ⟨by rw [List.length_append]; exact Nat.succ_le_succ hl1, hl2.yes h⟩⟩
      · exact hB _ (Same.refl _) ⟨Nat.le_succ_of_le hl1, hl2.no h⟩
    rintro H4 us l sm4 hD4 hE ⟨hl1, hl2⟩
    have e := hE.ints
    subst e
    rw [nn (by omega)] at hl2
    have hL := liars_max (f := f) (by omega) m1 hl2
    have ha4 := seqT sm4 ha1
    have hn4 := num_same sm4 hn1
    have s04 := sm1.trans sm4
    clear hl2 hE hD sm1 sm4 ha1 hn1
    -- spreads
    refine ⟨_, rfl, _, _, rfl, rfl, k + 1, rfl, by omega, by omega, fun D2 hD2 => ?_⟩
    refine lc_same (walk_range (lo := 0) (n := (k + 1).toNat)) (by omega) hD2 ErI (fun _ _ _ _ _ _ h => h) (fun _ _ _ _ _ h => h) (fun i l => l.length ≤ i ∧ Good l 0 (0 + (i : Int)) fun x => safeB k f m w1 w2 g x) ⟨Nat.le_refl _, Good.nil⟩ (fun _ _ => trivial) ?_ ?_
    · rintro i y H5 H6 l hi sm5 - ⟨hl1, hl2⟩ ⟨rfl, rfl⟩ A B hA hB
      refine ⟨rfl, ?_⟩
      refine ⟨_, rfl, _, rfl, _, rfl, _, rfl, _, rfl, k, f, m, 0 + (i : Int), w1, w2, g, a, rfl, seqT sm5 ha4, by omega, m1, g2, _, rfl, if_b (fun h => ?_) (fun h => ?_)⟩
      · exact ⟨_, rfl, hA _ _ _ (Same.refl _) rfl ⟨by rw [List.length_append]; exact Nat.succ_le_succ hl1, hl2.yes h⟩⟩
      · exact hB _ (Same.refl _) ⟨Nat.le_succ_of_le hl1, hl2.no h⟩
    rintro H5 us l2 sm5 hD5 hE ⟨hl3, hl4⟩
    have e := hE.ints
    subst e
    rw [nn (by omega)] at hl4
    have hS := spread_max (by omega) m1 g2 hl4
    have ha5 := seqT sm5 ha4
    have hn5 := num_same sm5 hn4
    have s05 := s04.trans sm5
    have hD5' := sm5 _ _ hD4
    clear hl4 hE hD2 sm5 ha4 hn4 s04 hD4
    -- pieces
    refine ⟨_, rfl, _, _, rfl, _, _, rfl, rfl, 1, mn k 6 + 1, rfl, ⟨by decide, by decide, ?_, ?_⟩, fun D3 hD3 => ?_⟩
    · have := mn_cases k 6; omega
    · have := mn_cases k 6; omega
    have c6 := mn_cases k 6
    refine lc_same (walk_range (lo := 1) (n := (mn k 6 + 1 - 1).toNat)) (by omega) hD3 ErI (fun _ _ _ _ _ _ h => h) (fun _ _ _ _ _ h => h) (fun i l => l.length ≤ i ∧ Good l 1 (1 + (i : Int)) fun x => safeB k f x w1 w2 g s) ⟨Nat.le_refl _, Good.nil⟩ (fun _ _ => trivial) ?_ ?_
    · rintro i y H6 H7 l hi sm6 - ⟨hl1, hl2⟩ ⟨rfl, rfl⟩ A B hA hB
      refine ⟨rfl, ?_⟩
      refine ⟨_, rfl, _, rfl, _, rfl, _, rfl, _, rfl, k, f, 1 + (i : Int), s, w1, w2, g, a, rfl, seqT sm6 ha5, s1, by omega, g2, _, rfl, if_b (fun h => ?_) (fun h => ?_)⟩
      · exact ⟨_, rfl, hA _ _ _ (Same.refl _) rfl ⟨by rw [List.length_append]; exact Nat.succ_le_succ hl1, hl2.yes h⟩⟩
      · exact hB _ (Same.refl _) ⟨Nat.le_succ_of_le hl1, hl2.no h⟩
    rintro H6 us l3 sm6 hD6 hE ⟨hl5, hl6⟩
    have e := hE.ints
    subst e
    rw [show (1 : Int) + (((mn k 6 + 1 - 1).toNat : Nat) : Int) = mn k 6 + 1 by omega] at hl6
    have hP := pieces_max k1 hl6
    have ha6 := seqT sm6 ha5
    have hn6 := num_same sm6 hn5
    have s06 := s05.trans sm6
    have hL6 := sm6 _ _ hD5'
    have hS6 := sm6 _ _ hD5
    clear hl6 hE hD3 sm6 ha5 hn5 s05 hD5 hD5'
    -- the greatest
    have top : ∀ {H7 : Hp} {D : Addr} {l : List Int} {oo : Option Int}, H7 D = some (.lst (l.map V.int)) → MaxIs l oo → True := fun _ _ => trivial
    refine ⟨_, rfl, _, rfl, x, k, f, d, m, w1, w2, g, s, rfl, hn6, o, fun v H' => v = optV (liarsO k f m w1 w2 g s) ∧ Same H6 H', ?_, ?_⟩
    · refine ⟨_, rfl, Nat.zero_le _, fun p hp => ne_nil hL6 hp ⟨_, rfl, ?_⟩⟩
      have hL7 := same_new (o := .lst []) hp _ _ hL6
      cases l with
      | nil => exact iteF ⟨by rw [hL.1 rfl]; rfl, same_new hp⟩
      | cons c r => exact iteT ⟨_, rfl, D, c :: r, rfl, SqL.of hL7, Nat.succ_pos _, fun b hb hy => ⟨by rw [hL.2 b hb hy]; rfl, same_new hp⟩⟩
    rintro v H7 ⟨rfl, sm7⟩
    refine ⟨_, _, _, rfl, dp_opt _, dp_opt _, sc_opt _, fun H8 sm8 => ⟨_, rfl, iteF ?_⟩⟩
    have s78 := sm7.trans sm8
    refine ⟨_, rfl, x, k, f, d, m, w1, w2, g, rfl, num_same s78 hn6, o.at0, fun v H' => v = optV (spreadO k f m w1 w2 g) ∧ Same H8 H', ?_, ?_⟩
    · have hS8 := s78 _ _ hS6
      refine ⟨_, rfl, Nat.zero_le _, fun p hp => ne_nil hS8 hp ⟨_, rfl, ?_⟩⟩
      have hL7 := same_new (o := .lst []) hp _ _ hS8
      cases l2 with
      | nil => exact iteF ⟨by rw [hS.1 rfl]; rfl, same_new hp⟩
      | cons c r => exact iteT ⟨_, rfl, D2, c :: r, rfl, SqL.of hL7, Nat.succ_pos _, fun b hb hy => ⟨by rw [hS.2 b hb hy]; rfl, same_new hp⟩⟩
    rintro v H9 ⟨rfl, sm9⟩
    refine ⟨_, _, _, rfl, dp_opt _, dp_opt _, sc_opt _, fun H10 sm10 => ⟨_, rfl, iteF ?_⟩⟩
    have s710 := (s78.trans sm9).trans sm10
    refine ⟨_, rfl, _, rfl, x, k, f, d, m, w1, w2, g, s, rfl, num_same s710 hn6, o, fun v H' => v = optV (piecesO k f w1 w2 g s) ∧ Same H10 H', ?_, ?_⟩
    · have hS8 := s710 _ _ hD6
      refine ⟨_, rfl, Nat.zero_le _, fun p hp => ne_nil hS8 hp ⟨_, rfl, ?_⟩⟩
      have hL7 := same_new (o := .lst []) hp _ _ hS8
      cases l3 with
      | nil => exact iteF ⟨by rw [hP.1 rfl]; rfl, same_new hp⟩
      | cons c r => exact iteT ⟨_, rfl, D3, c :: r, rfl, SqL.of hL7, Nat.succ_pos _, fun b hb hy => ⟨by rw [hP.2 b hb hy]; rfl, same_new hp⟩⟩
    rintro v H11 ⟨rfl, sm11⟩
    exact ⟨_, _, _, rfl, dp_opt _, dp_opt _, sc_opt _, fun H12 sm12 => fin _ (((s06.trans s710).trans sm11).trans sm12)⟩
end
end K26

namespace K26
/-- 1 .. n -/
def R1 (n : Nat) : List Int := (List.range n).map fun i : Nat => 1 + (i : Int)
theorem R1_succ (n : Nat) : R1 (n + 1) = R1 n ++ [1 + (n : Int)] := by
  unfold R1
  rw [List.range_succ, List.map_append]
  rfl
theorem one_hit {α : Type} (a : Int) (X : List α) : ∀ n : Nat, ((R1 n).flatMap fun x => if x = a then X else []) = if 1 ≤ a ∧ a ≤ (n : Int) then X else []
  | 0 => by
    rw [if_neg (by omega)]
    rfl
  | n + 1 => by
    rw [R1_succ, List.flatMap_append, one_hit a X n, List.flatMap_singleton]
    by_cases h : 1 + (n : Int) = a
    · rw [if_neg (by omega), if_pos h, if_pos (by omega)]
      rfl
    · rw [if_neg h, List.append_nil]
      by_cases h1 : 1 ≤ a ∧ a ≤ (n : Int)
      · rw [if_pos h1, if_pos (by omega)]
      · rw [if_neg h1, if_neg (by omega)]
theorem upI_nil {lo hi : Int} (h : hi ≤ lo) : upI lo hi = [] := by
  unfold upI
  rw [show (hi - lo).toNat = 0 by omega]
  rfl
theorem upI_succ {lo hi : Int} (h : lo ≤ hi) : upI lo (hi + 1) = upI lo hi ++ [hi] := by
  unfold upI
  rw [show (hi + 1 - lo).toNat = (hi - lo).toNat + 1 by omega, List.range_succ, List.map_append, List.map_singleton, show lo + (((hi - lo).toNat : Nat) : Int) = hi by omega]
theorem more_hits {α : Type} (h : Int → α) {both most : Int} (hb : most + 2 ≤ both - most + most) (hlo : 2 ≤ both - most) : ∀ n : Nat, (n : Int) ≤ most → ((R1 n).flatMap fun y => if 1 ≤ both - y ∧ both - y ≤ most then [h y] else []) = (upI (both - most) ((n : Int) + 1)).map h
  | 0, _ => by
    rw [upI_nil (by omega)]
    rfl
  | n + 1, hn => by
    rw [R1_succ, List.flatMap_append, more_hits h hb hlo n (by omega), List.flatMap_singleton]
    by_cases z : both - most ≤ (n : Int) + 1
    · rw [if_pos (by omega), show (((n + 1 : Nat) : Int) + 1) = ((n : Int) + 1) + 1 by omega, upI_succ z, List.map_append, List.map_singleton]
      rw [show 1 + (n : Int) = (n : Int) + 1 by omega]
    · rw [if_neg (by omega), upI_nil (by omega), upI_nil (by omega)]
      rfl
theorem flat_nil {α β : Type} (l : List α) : (l.flatMap fun _ => ([] : List β)) = [] := by
  induction l with
  | nil => rfl
  | cons x r ih => rw [List.flatMap_cons, ih]; rfl
/-- which counts the law finds -/
def hitB (k f m s w1 w2 g : Int) : Bool := decide (w1 = firstI k f s) && (if s = 0 then decide (w2 = f + m) && decide (g = 1) else decide (g = k + s + f + m - w2))
def g3 (k f m s w1 w2 g : Int) : List Tri := if hitB k f m s w1 w2 g = true then [(w1, w2, g)] else []
def g2L (k f m s w1 w2 : Int) (n : Nat) : List Tri := (R1 n).flatMap (g3 k f m s w1 w2)
def g1L (k f m s w1 : Int) (n n2 : Nat) : List Tri := (R1 n2).flatMap fun w2 => g2L k f m s w1 w2 n
def g0L (k f m s : Int) (n n1 : Nat) : List Tri := (R1 n1).flatMap fun w1 => g1L k f m s w1 n n
theorem found_eq {k f m s : Int} {n : Nat} (hk : 1 ≤ k) (hf : 0 ≤ f) (hm : 1 ≤ m) (hs : 0 ≤ s) (hn : (n : Int) ≤ k) : g0L k f m s n n = leastL k f m s (n : Int) := by
  have hfi : 1 ≤ firstI k f s := by unfold firstI; omega
  have e1 : (fun w1 => g1L k f m s w1 n n) = fun w1 => if w1 = firstI k f s then g1L k f m s (firstI k f s) n n else [] := by
    funext w1
    by_cases h : w1 = firstI k f s
    · rw [if_pos h, h]
    · rw [if_neg h]
      have : ∀ w2, g2L k f m s w1 w2 n = [] := fun w2 => by
        unfold g2L
        rw [show g3 k f m s w1 w2 = fun _ => [] by
          funext g
          unfold g3 hitB
          rw [show decide (w1 = firstI k f s) = false from decide_eq_false h, Bool.false_and, if_neg Bool.false_ne_true]]
        exact flat_nil _
      unfold g1L
      rw [show (fun w2 => g2L k f m s w1 w2 n) = fun _ => [] from funext this]
      exact flat_nil _
  unfold g0L
  rw [e1, one_hit]
  unfold leastL
  by_cases h : firstI k f s > (n : Int)
  · rw [if_neg (by omega), if_pos h]
  rw [if_pos (by omega), if_neg h]
  by_cases hs0 : s = 0
  · rw [if_pos hs0]
    have e2 : (fun w2 => g2L k f m s (firstI k f s) w2 n) = fun w2 => if w2 = f + m then [(firstI k f s, f + m, 1)] else [] := by
      funext w2
      unfold g2L
      have e3 : g3 k f m s (firstI k f s) w2 = fun g => if g = 1 then (if w2 = f + m then [(firstI k f s, w2, 1)] else []) else [] := by
        funext g
        unfold g3 hitB
        rw [if_pos hs0, decide_eq_true rfl, Bool.true_and]
        by_cases h1 : w2 = f + m
        · by_cases h2 : g = 1
          · rw [decide_eq_true h1, decide_eq_true h2, if_pos h1, if_pos h2, h2]; rfl
          · rw [show decide (g = 1) = false from decide_eq_false h2, Bool.and_false, if_neg Bool.false_ne_true, if_neg h2]
        · rw [show decide (w2 = f + m) = false from decide_eq_false h1, Bool.false_and, if_neg Bool.false_ne_true, if_neg h1]
          split <;> rfl
      rw [e3, one_hit, if_pos (by omega)]
      by_cases h1 : w2 = f + m
      · rw [if_pos h1, if_pos h1, h1]
      · rw [if_neg h1, if_neg h1]
    unfold g1L
    rw [e2, one_hit]
    by_cases h1 : f + m ≤ (n : Int)
    · rw [if_pos (by omega), if_pos h1]
    · rw [if_neg (by omega), if_neg h1]
  · rw [if_neg hs0]
    have e2 : (fun w2 => g2L k f m s (firstI k f s) w2 n) = fun w2 => if 1 ≤ k + s + f + m - w2 ∧ k + s + f + m - w2 ≤ (n : Int) then [(firstI k f s, w2, k + s + f + m - w2)] else [] := by
      funext w2
      unfold g2L
      have e3 : g3 k f m s (firstI k f s) w2 = fun g => if g = k + s + f + m - w2 then [(firstI k f s, w2, k + s + f + m - w2)] else [] := by
        funext g
        unfold g3 hitB
        rw [if_neg hs0, decide_eq_true rfl, Bool.true_and]
        by_cases h2 : g = k + s + f + m - w2
        · rw [decide_eq_true h2, if_pos rfl, if_pos h2, h2]
        · rw [show decide (g = k + s + f + m - w2) = false from decide_eq_false h2, if_neg Bool.false_ne_true, if_neg h2]
      rw [e3, one_hit]
    unfold g1L
    rw [e2, more_hits (fun y => (firstI k f s, y, k + s + f + m - y)) (by omega) (by omega) n (Int.le_refl _)]
/-- the least ones among the safe ones -/
theorem hit_iff {k f m s w1 w2 g : Int} (hk : 1 ≤ k) (hf : 0 ≤ f) (hm : 1 ≤ m) (hs : 0 ≤ s) (h1 : 1 ≤ w1) (h2 : 1 ≤ w2) (h3 : 1 ≤ g) (b2 : w2 ≤ k) (b3 : g ≤ k) :
    hitB k f m s w1 w2 g = (safeB k f m w1 w2 g s && !((decide (0 < w1 - 1) && safeB k f m (w1 - 1) w2 g s) || (decide (0 < w2 - 1) && safeB k f m w1 (w2 - 1) g s) || (decide (0 < g - 1) && safeB k f m w1 w2 (g - 1) s))) := by
  rw [Bool.eq_iff_iff]
  simp only [Bool.and_eq_true, Bool.not_eq_true', Bool.or_eq_false_iff, Bool.and_eq_false_imp, decide_eq_true_eq]
  have neg : ∀ {a b c : Int}, safeB k f m a b c s = false ↔ ¬ (0 < 2 * a - k - s - f ∧ (s = 0 → f + m ≤ b) ∧ (s ≠ 0 → m ≤ c + b - k - s - f)) := fun {a b c} => by
    rw [← safe_iff hm]
    cases safeB k f m a b c s <;> simp
  simp only [neg]
  rw [safe_iff hm]
  unfold hitB firstI
  by_cases hs0 : s = 0
  · subst hs0
    simp only [Bool.and_eq_true, decide_eq_true_eq, if_true, true_implies, ne_eq, not_true_eq_false, false_implies, and_true]
    constructor
    · rintro ⟨e1, e2, e3⟩
      refine ⟨⟨by omega, by omega⟩, ⟨⟨fun _ => by omega, fun _ => by omega⟩, fun _ => by omega⟩⟩
    · rintro ⟨⟨a1, a2⟩, ⟨⟨c1, c2⟩, c3⟩⟩
      refine ⟨?_, ?_, ?_⟩
      · by_cases z : 0 < w1 - 1
        · have := c1 z; omega
        · omega
      · by_cases z : 0 < w2 - 1
        · have := c2 z; omega
        · omega
      · by_cases z : 0 < g - 1
        · have := c3 z; omega
        · omega
  · simp only [Bool.and_eq_true, decide_eq_true_eq, hs0, ↓reduceIte, false_implies, true_and, ne_eq, not_false_eq_true, true_implies]
    constructor
    · rintro ⟨e1, e2⟩
      refine ⟨⟨by omega, by omega⟩, ⟨⟨fun _ => by omega, fun _ => by omega⟩, fun _ => by omega⟩⟩
    · rintro ⟨⟨a1, a2⟩, ⟨⟨c1, c2⟩, c3⟩⟩
      refine ⟨?_, ?_⟩
      · by_cases z : 0 < w1 - 1
        · have := c1 z; omega
        · omega
      · by_cases z : 0 < g - 1
        · have := c3 z; omega
        · omega
end K26

namespace K26
open PySem PySem.Spec PyProof.Rows L2 Hl
/-- the list found, with the triples L -/
def FoundT (K : PySem.W.Frag) (H : Hp) (p : Addr) (L : List Tri) : Prop := ∃ us, H p = some (.lst us) ∧ Ers (ErTD K p) H us L
theorem FoundT.mono {K : PySem.W.Frag} {H H' : Hp} {p : Addr} {L : List Tri} (e : Same H H') : FoundT K H p L → FoundT K H' p L
  | ⟨us, h1, h2⟩ => ⟨us, e _ _ h1, h2.mono fun y a h => h.em e⟩
theorem R1_len (n : Nat) : (R1 n).length = n := by unfold R1; rw [List.length_map, List.length_range]
theorem flat_len {F : Int → List Tri} {c : Nat} (h : ∀ x, (F x).length ≤ c) : ∀ n : Nat, ((R1 n).flatMap F).length ≤ n * c
  | 0 => by rw [show R1 0 = [] from rfl]; exact Nat.zero_le _
  | n + 1 => by
    rw [R1_succ, List.flatMap_append, List.length_append, List.flatMap_singleton, Nat.add_mul, Nat.one_mul]
    exact Nat.add_le_add (flat_len h n) (h _)
theorem g3_len (k f m s w1 w2 g : Int) : (g3 k f m s w1 w2 g).length ≤ 1 := by unfold g3; split <;> simp
theorem g2_len (k f m s w1 w2 : Int) (n : Nat) : (g2L k f m s w1 w2 n).length ≤ n * 1 := flat_len (g3_len k f m s w1 w2) n
theorem g1_len (k f m s w1 : Int) (n n2 : Nat) : (g1L k f m s w1 n n2).length ≤ n2 * (n * 1) := flat_len (fun w2 => g2_len k f m s w1 w2 n) n2
theorem g0_len (k f m s : Int) (n n1 : Nat) : (g0L k f m s n n1).length ≤ n1 * (n * (n * 1)) := flat_len (fun w1 => g1_len k f m s w1 n n) n1
theorem g2_succ (k f m s w1 w2 : Int) (n : Nat) : g2L k f m s w1 w2 (n + 1) = g2L k f m s w1 w2 n ++ g3 k f m s w1 w2 (1 + (n : Int)) := by
  unfold g2L; rw [R1_succ, List.flatMap_append, List.flatMap_singleton]
theorem g1_succ (k f m s w1 : Int) (n n2 : Nat) : g1L k f m s w1 n (n2 + 1) = g1L k f m s w1 n n2 ++ g2L k f m s w1 (1 + (n2 : Int)) n := by
  unfold g1L; rw [R1_succ, List.flatMap_append, List.flatMap_singleton]
theorem g0_succ (k f m s : Int) (n n1 : Nat) : g0L k f m s n (n1 + 1) = g0L k f m s n n1 ++ g1L k f m s (1 + (n1 : Int)) n n := by
  unfold g0L; rw [R1_succ, List.flatMap_append, List.flatMap_singleton]
section
variable {P : Program} {w : World} {K : PySem.W.Frag} {mg : Str → Option Value} {base : Heap}
def minB (k f m s a b c : Int) : Bool := decide ([b, c].foldl min a > 0) && safeB k f m a b c s
def sp_Lleast (K : PySem.W.Frag) : Sp := fun vs H Q _ => ∃ k f m s most : Int, vs = [.int k, .int f, .int m, .int s, .int most] ∧ (1 ≤ k ∧ k ≤ 12) ∧ 0 ≤ f ∧ 1 ≤ m ∧ 0 ≤ s ∧ (0 ≤ most ∧ most ≤ k) ∧
  ∀ p H' us, Same H H' → H p = none → H' p = some (.lst us) → Ers (ErT K) H' us (leastL k f m s most) → Q (.ref p) H'
theorem ok_Lleast {f : Addr} {fd : FuncData} (F : Fun K "_law_least" "_law_least" s__law_least f fd) (T : Txt K mg) (D__law_safe : Df P w K mg base 2 "_law_safe" ["k", "f", "m", "spread", "triple"] (sp_Lsafe K)) :
    FnOk P w K mg base CX0 3 f fd ["k", "f", "m", "spread", "most"] (sp_Lleast K) := by
  refine F.ok sc__law_least (fun vs H Q E h => ?_) (fun cdv A outer st H vs Q E hr h => ?_)
  · obtain ⟨_, _, _, _, _, rfl, _⟩ := h
    rfl
  · obtain ⟨k, f, m, s, most, rfl, hk, hf, hm, hs, hmo, fin⟩ := h
    refine ⟨_, (pss_cons (ps_set (i := 5) sc__law_least.nd rfl (by first | exact Or.inl rfl | exact Or.inr rfl) (pe_lst pa_nil))
  (pss_cons (ps_for PassesOwn.never rfl (pi_range2 (by rfl) T.range (pa_cons pe_int (pa_cons (pe_op op_add (pv 4) pe_int) pa_nil))) (pg_name (i := 6) sc__law_least.nd rfl (by first | exact Or.inl rfl | exact Or.inr rfl))
  (pss_one (ps_for PassesOwn.never rfl (pi_range2 (by rfl) T.range (pa_cons pe_int (pa_cons (pe_op op_add (pv 4) pe_int) pa_nil))) (pg_name (i := 7) sc__law_least.nd rfl (by first | exact Or.inl rfl | exact Or.inr rfl))
  (pss_one (ps_for PassesOwn.never rfl (pi_range2 (by rfl) T.range (pa_cons pe_int (pa_cons (pe_op op_add (pv 4) pe_int) pa_nil))) (pg_name (i := 8) sc__law_least.nd rfl (by first | exact Or.inl rfl | exact Or.inr rfl))
  (pss_one (ps_if (pt_val (pe_call D__law_safe.ok (hr.mono (by first | decide | omega)) (by rfl) D__law_safe.m D__law_safe.kp D__law_safe.b .nil pass0 (pa_cons (pv 0) (pa_cons (pv 1) (pa_cons (pv 2) (pa_cons (pv 3) (pa_cons (pe_tup (pa_cons (pv 6) (pa_cons (pv 7) (pa_cons (pv 8) pa_nil)))) pa_nil)))))))
  (pss_cons (ps_set (i := 9) sc__law_least.nd rfl (by first | exact Or.inl rfl | exact Or.inr rfl) (pe_cut (pe_lst (pa_cons (pe_tup (pa_cons (pe_op op_sub (pv 6) pe_int) (pa_cons (pv 7) (pa_cons (pv 8) pa_nil)))) (pa_cons (pe_tup (pa_cons (pv 6) (pa_cons (pe_op op_sub (pv 7) pe_int) (pa_cons (pv 8) pa_nil)))) (pa_cons (pe_tup (pa_cons (pv 6) (pa_cons (pv 7) (pa_cons (pe_op op_sub (pv 8) pe_int) pa_nil)))) pa_nil))))))
  (pss_one (ps_if (pt_not (pt_val (pe_cut (pe_callB (cr_any rfl) (by rfl) T.any (by decide +kernel) (pa_cons (pe_lc (own := [("one", 10)]) (by rfl) sc__law_least.nd (pi_list (pv 9)) (blkOk_by (own := [("one", 10)]) (N := N__law_least) (sc := defScope s__law_least) (by decide +kernel)) (fun _ _ _ _ _ => (pg_name (i := 10) sc__law_least.nd rfl (by first | exact Or.inl rfl | exact Or.inr rfl))) (fun _ _ _ _ _ => pts_nil) (fun _ _ _ _ _ => (pe_and (pe_cmpR op_gt (pe_callB (kcr_minT (K := K) rfl rfl (room65 hr)) (by rfl) T.min (by decide +kernel) (pa_cons (pv 10) pa_nil)) pe_int (nomark _)) (pe_one (pe_call D__law_safe.ok (hr.mono (by first | decide | omega)) (by rfl) D__law_safe.m D__law_safe.kp D__law_safe.b .nil pass0 (pa_cons (pv 0) (pa_cons (pv 1) (pa_cons (pv 2) (pa_cons (pv 3) (pa_cons (pv 10) pa_nil)))))))))) pa_nil)))))
  (pss_one (ps_expr (pe_bm PySem.F.plainAttrs_list PySem.F.slot_list_append PySem.F.type_list_append mt_append (pv 5) (pa_cons (pe_tup (pa_cons (pv 6) (pa_cons (pv 7) (pa_cons (pv 8) pa_nil)))) pa_nil))))
  pss_nil)))
  pss_nil)))))))
  (pss_one (ps_ret (pv 5))))), ?_⟩
    obtain ⟨n, rfl⟩ : ∃ n : Nat, most = (n : Int) := ⟨most.toNat, by omega⟩
    have hn : n ≤ 12 := by omega
    have en : ((n : Int) + 1 - 1).toNat = n := by omega
    refine ⟨Nat.zero_le _, fun p hp => ?_⟩
    have s0 := same_new (o := .lst []) hp
    refine ⟨_, rfl, _, _, rfl, rfl, 1, (n : Int) + 1, rfl, ⟨by decide, by decide, by omega, by omega⟩, ?_⟩
    rw [en]
    refine for_range (lo := 1) (n := n) (fun i σ H' => ∃ x6 x7 x8 x9 x10, σ = [some (.int k), some (.int f), some (.int m), some (.int s), some (.int (n : Int)), some (.ref p), x6, x7, x8, x9, x10] ∧ Same H H' ∧ FoundT K H' p (g0L k f m s n i))
      ⟨_, _, _, _, _, rfl, s0, [], upd_same, .nil⟩ ?_ ?_
    · rintro i σ H1 hi ⟨x6, x7, x8, x9, x10, rfl, sm1, hF1⟩
      refine ⟨_, rfl, _, _, rfl, rfl, 1, (n : Int) + 1, rfl, ⟨by decide, by decide, by omega, by omega⟩, ?_⟩
      rw [en]
      refine for_range (lo := 1) (n := n) (fun j σ H' => ∃ x7 x8 x9 x10, σ = [some (.int k), some (.int f), some (.int m), some (.int s), some (.int (n : Int)), some (.ref p), some (.int (1 + (i : Int))), x7, x8, x9, x10] ∧ Same H H' ∧ FoundT K H' p (g0L k f m s n i ++ g1L k f m s (1 + (i : Int)) n j))
        ⟨_, _, _, _, rfl, sm1, by rw [show g1L k f m s (1 + (i : Int)) n 0 = [] from rfl, List.append_nil]; exact hF1⟩ ?_ ?_
      · rintro j σ H2 hj ⟨x7, x8, x9, x10, rfl, sm2, hF2⟩
        refine ⟨_, rfl, _, _, rfl, rfl, 1, (n : Int) + 1, rfl, ⟨by decide, by decide, by omega, by omega⟩, ?_⟩
        rw [en]
        refine for_range (lo := 1) (n := n) (fun l σ H' => ∃ x8 x9 x10, σ = [some (.int k), some (.int f), some (.int m), some (.int s), some (.int (n : Int)), some (.ref p), some (.int (1 + (i : Int))), some (.int (1 + (j : Int))), x8, x9, x10] ∧ Same H H' ∧
            FoundT K H' p (g0L k f m s n i ++ g1L k f m s (1 + (i : Int)) n j ++ g2L k f m s (1 + (i : Int)) (1 + (j : Int)) l))
          ⟨_, _, _, rfl, sm2, by rw [show g2L k f m s (1 + (i : Int)) (1 + (j : Int)) 0 = [] from rfl, List.append_nil]; exact hF2⟩ ?_ ?_
        · rintro l σ H3 hl ⟨x8, x9, x10, rfl, sm3, hF3⟩
          have hlen : (g0L k f m s n i ++ g1L k f m s (1 + (i : Int)) n j ++ g2L k f m s (1 + (i : Int)) (1 + (j : Int)) l).length ≤ 100000 := by
            rw [List.length_append, List.length_append]
            have a1 := g0_len k f m s n i
            have a2 := g1_len k f m s (1 + (i : Int)) n j
            have a3 := g2_len k f m s (1 + (i : Int)) (1 + (j : Int)) l
            have b2 : j * (n * 1) ≤ 12 * 12 := Nat.mul_le_mul (by omega) (by omega)
            have b1 : i * (n * (n * 1)) ≤ 12 * (12 * 12) := Nat.mul_le_mul (by omega) (Nat.mul_le_mul hn (by omega))
            omega
          rw [g2_succ, ← List.append_assoc]
          generalize g0L k f m s n i ++ g1L k f m s (1 + (i : Int)) n j ++ g2L k f m s (1 + (i : Int)) (1 + (j : Int)) l = L3 at hF3 hlen ⊢
          have hhit := hit_iff (k := k) (f := f) (m := m) (s := s) (w1 := 1 + (i : Int)) (w2 := 1 + (j : Int)) (g := 1 + (l : Int)) hk.1 hf hm hs (by omega) (by omega) (by omega) (by omega) (by omega)
          have hw1 : 1 ≤ 1 + (i : Int) := by omega
          have hw2 : 1 ≤ 1 + (j : Int) := by omega
          have hg1 : 1 ≤ 1 + (l : Int) := by omega
          have hgk : 1 + (l : Int) ≤ k := by omega
          generalize 1 + (i : Int) = w1 at hhit hw1 ⊢
          generalize 1 + (j : Int) = w2 at hhit hw2 ⊢
          generalize 1 + (l : Int) = g at hhit hg1 hgk ⊢
          refine ⟨_, rfl, _, rfl, _, rfl, _, rfl, _, rfl, _, rfl, _, rfl, (by show 3 ≤ sizeLine; decide), fun t0 ht0 => ?_⟩
          have s4 := same_new (o := .tup [.int w1, .int w2, .int g]) ht0
          refine ⟨k, f, m, s, w1, w2, g, t0, rfl, SqT.of upd_same, hs, hm, hgk, _, rfl, if_b (fun hsafe => ?_) (fun hsafe => ?_)⟩
          rotate_left
          · refine ⟨_, _, _, rfl, sm3.trans s4, ?_⟩
            rw [show g3 k f m s w1 w2 g = [] by unfold g3; rw [hhit, hsafe, Bool.false_and, if_neg Bool.false_ne_true], List.append_nil]
            exact hF3.mono s4
          have sm4 := sm3.trans s4
          have hF4 := hF3.mono s4
          generalize upd H3 t0 (.tup [.int w1, .int w2, .int g]) = H4 at sm4 hF4 ⊢
          clear s4 ht0 hF3 sm3
          rw [hsafe, Bool.true_and] at hhit
          -- less
          refine ⟨fun v H' => ∃ le t1 t2 t3 : Addr, v = .ref le ∧ H' le = some (.lst [.ref t1, .ref t2, .ref t3]) ∧ TriAt K H' t1 (w1 - 1) w2 g ∧ TriAt K H' t2 w1 (w2 - 1) g ∧ TriAt K H' t3 w1 w2 (g - 1) ∧ Same H4 H', ?_, ?_⟩
          · refine ⟨_, rfl, _, _, rfl, rfl, _, rfl, _, rfl, (by show 3 ≤ sizeLine; decide), fun t1 ht1 => ?_⟩
            refine ⟨_, rfl, _, rfl, _, _, rfl, rfl, _, rfl, (by show 3 ≤ sizeLine; decide), fun t2 ht2 => ?_⟩
            refine ⟨_, rfl, _, rfl, _, rfl, _, _, rfl, rfl, (by show 3 ≤ sizeLine; decide), fun t3 ht3 => ?_⟩
            refine ⟨(by show 3 ≤ sizeLine; decide), fun le hle => ?_⟩
            exact ⟨le, t1, t2, t3, rfl, upd_same, seqT (same_new hle) (seqT (same_new ht3) (seqT (same_new ht2) (SqT.of upd_same))), seqT (same_new hle) (seqT (same_new ht3) (SqT.of upd_same)), seqT (same_new hle) (SqT.of upd_same),
              ((same_new ht1).trans (same_new ht2)).trans ((same_new ht3).trans (same_new hle))⟩
          rintro v H5 ⟨le, t1, t2, t3, rfl, hle, h1, h2, h3, s5⟩
          have sm5 := sm4.trans s5
          have hF5 := hF4.mono s5
          clear s5 hF4 sm4
          have hh : hitB k f m s w1 w2 g = !([minB k f m s (w1 - 1) w2 g, minB k f m s w1 (w2 - 1) g, minB k f m s w1 w2 (g - 1)].any id) := by
            rw [hhit]
            unfold minB
            rw [show decide ([w2, g].foldl min (w1 - 1) > 0) = decide (0 < w1 - 1) from decide_eq_decide.mpr (by show min (min (w1 - 1) w2) g > 0 ↔ _; omega),
              show decide ([w2 - 1, g].foldl min w1 > 0) = decide (0 < w2 - 1) from decide_eq_decide.mpr (by show min (min w1 (w2 - 1)) g > 0 ↔ _; omega),
              show decide ([w2, g - 1].foldl min w1 > 0) = decide (0 < g - 1) from decide_eq_decide.mpr (by show min (min w1 w2) (g - 1) > 0 ↔ _; omega)]
            simp only [List.any_cons, List.any_nil, Bool.or_false, id, Bool.or_assoc]
          refine ⟨fun v H' => v = .bl ([minB k f m s (w1 - 1) w2 g, minB k f m s w1 (w2 - 1) g, minB k f m s w1 w2 (g - 1)].any id) ∧ Same H5 H', ?_, ?_⟩
          · refine ⟨_, rfl, le, rfl, ⟨_, SqL.of hle⟩, fun D hD => ?_⟩
            refine lc_same (walk_list (xs := [.ref t1, .ref t2, .ref t3])) (by show 3 ≤ 100000; decide) hD ErB (fun _ _ _ _ _ _ h => h) (fun _ _ _ _ _ h => h) (fun j l => l = [minB k f m s (w1 - 1) w2 g, minB k f m s w1 (w2 - 1) g, minB k f m s w1 w2 (g - 1)].take j) rfl (fun H6 sm6 => SqL.of (sm6 _ _ hle)) ?_ ?_
            · rintro j y H6 H7 l hj sm6 - rfl ⟨rfl, hy⟩ A B hA hB
              obtain ⟨t, a, b, c, rfl, hT, hc, e⟩ : ∃ (t : Addr) (a b c : Int), y = .ref t ∧ TriAt K H5 t a b c ∧ c ≤ k ∧ [minB k f m s (w1 - 1) w2 g, minB k f m s w1 (w2 - 1) g, minB k f m s w1 w2 (g - 1)].take (j + 1) = [minB k f m s (w1 - 1) w2 g, minB k f m s w1 (w2 - 1) g, minB k f m s w1 w2 (g - 1)].take j ++ [minB k f m s a b c] := by
                match j, hj, hy with
                | 0, _, hy => exact ⟨t1, _, _, _, (Option.some.inj hy).symm, h1, hgk, rfl⟩
                | 1, _, hy => exact ⟨t2, _, _, _, (Option.some.inj hy).symm, h2, hgk, rfl⟩
                | 2, _, hy => exact ⟨t3, _, _, _, (Option.some.inj hy).symm, h3, by omega, rfl⟩
              have hT6 := seqT sm6 hT
              refine ⟨rfl, t_yes ?_⟩
              refine ⟨_, rfl, t, a, [b, c], rfl, hT6, _, _, rfl, rfl, and_rd (fun h => ?_) (fun h => ?_)⟩
              · refine ⟨_, rfl, _, rfl, _, rfl, _, rfl, _, rfl, k, f, m, s, a, b, c, t, rfl, hT6, hs, hm, hc, hA _ _ _ (Same.refl _) rfl ?_⟩
                rw [e]
                unfold minB
                rw [h, Bool.true_and]
              · refine hA _ _ _ (Same.refl _) rfl ?_
                rw [e]
                unfold minB
                rw [h, Bool.false_and]
            · rintro H6 us l sm6 hD6 hE rfl
              have e := ers_bls hE
              subst e
              exact ⟨D, _, rfl, SqL.of hD6, rfl, sm6⟩
          rintro v H6 ⟨rfl, sm6⟩
          refine ⟨_, rfl, if_n (fun h => ?_) (fun h => ?_)⟩
          · rw [h] at hh
            obtain ⟨us, hus, hE⟩ := hF5.mono sm6
            refine ⟨_, rfl, .inl ⟨rfl, _, SqL.of hus⟩, _, rfl, _, rfl, _, rfl, (by show 3 ≤ sizeLine; decide), fun r hr3 => ?_⟩
            have s7 := same_new (o := .tup [.int w1, .int w2, .int g]) hr3
            refine ⟨p, _, _, rfl, rfl, s7 _ _ hus, ?_, ?_⟩
            · rw [hE.len]
              exact Nat.lt_of_le_of_lt hlen (by decide)
            · refine ⟨_, _, _, rfl, ?_, ?_⟩
              · exact same_mut ((sm5.trans sm6).trans s7) hp
              · refine ⟨us ++ [.ref r], upd_same, ?_⟩
                rw [show g3 k f m s w1 w2 g = [(w1, w2, g)] by unfold g3; rw [hh]; rfl]
                exact Ers.snoc (ErTD.of (s7 _ _ hus) (tri_new _ _ _)).ep (((hE.mono fun y a h => h.em s7)).mono fun y a h => h.ep)
          · refine ⟨_, _, _, rfl, sm5.trans sm6, ?_⟩
            rw [h] at hh
            rw [show g3 k f m s w1 w2 g = [] by unfold g3; rw [hh]; rfl, List.append_nil]
            exact hF5.mono sm6
        · rintro σ H3 ⟨x8, x9, x10, rfl, sm3, hF3⟩
          refine ⟨_, _, _, _, rfl, sm3, ?_⟩
          rw [g1_succ, ← List.append_assoc]
          exact hF3
      · rintro σ H2 ⟨x7, x8, x9, x10, rfl, sm2, hF2⟩
        refine ⟨_, _, _, _, _, rfl, sm2, ?_⟩
        rw [g0_succ]
        exact hF2
    · rintro σ H1 ⟨x6, x7, x8, x9, x10, rfl, sm1, us, hus, hE⟩
      refine ⟨_, rfl, fin p H1 us sm1 hp hus ?_⟩
      rw [← found_eq hk.1 hf hm hs hmo.2]
      exact hE.mono' fun y a h => h.to hus
end
end K26

namespace K26
open PySem PySem.Spec PyProof.Rows L2 Hl
/-! ### the first of least cost -/
theorem fold_stay {p0 p1 p2 : Int} : ∀ (l : List Tri) (b : Int × Tri), (∀ u ∈ l, b.1 ≤ cost3 p0 p1 p2 u) → l.foldl (bestStep p0 p1 p2) (some b) = some b
  | [], _, _ => rfl
  | u :: r, b, h => by
    have h1 := h u (by simp)
    rw [List.foldl_cons, show bestStep p0 p1 p2 (some b) u = some b from if_neg (by omega)]
    exact fold_stay r b fun v hv => h v (by simp [hv])
theorem fold_before {p0 p1 p2 c : Int} : ∀ (l : List Tri) (o : Option (Int × Tri)), (∀ b, o = some b → c < b.1) → (∀ u ∈ l, c < cost3 p0 p1 p2 u) → ∀ b, l.foldl (bestStep p0 p1 p2) o = some b → c < b.1
  | [], o, h, _ => h
  | u :: r, o, h, hl => by
    rw [List.foldl_cons]
    refine fold_before r _ (fun b hb => ?_) fun v hv => hl v (by simp [hv])
    cases o with
    | none =>
      obtain rfl := Option.some.inj (show some (cost3 p0 p1 p2 u, u) = some b from hb)
      exact hl u (by simp)
    | some a =>
      have hb' : (if cost3 p0 p1 p2 u < a.1 then some (cost3 p0 p1 p2 u, u) else some a) = some b := hb
      split at hb'
      · obtain rfl := Option.some.inj hb'
        exact hl u (by simp)
      · obtain rfl := Option.some.inj hb'
        exact h _ rfl
theorem best_first {p0 p1 p2 : Int} {L : List Tri} {j : Nat} {t : Tri} (ht : L[j]? = some t) (h1 : ∀ (i : Nat) (u : Tri), i < j → L[i]? = some u → cost3 p0 p1 p2 t < cost3 p0 p1 p2 u) (h2 : ∀ u ∈ L, cost3 p0 p1 p2 t ≤ cost3 p0 p1 p2 u) : bestL p0 p1 p2 L = some (cost3 p0 p1 p2 t, t) := by
  obtain ⟨hj, ht'⟩ := List.getElem?_eq_some_iff.mp ht
  have e : L = L.take j ++ t :: L.drop (j + 1) := by
    rw [← ht', List.getElem_cons_drop, List.take_append_drop]
  have hb := fold_before (c := cost3 p0 p1 p2 t) (p0 := p0) (p1 := p1) (p2 := p2) (L.take j) none (fun b hb => by cases hb) (fun u hu => by
    obtain ⟨i, hi⟩ := List.mem_iff_getElem?.mp hu
    obtain ⟨hlt, _⟩ := List.getElem?_eq_some_iff.mp hi
    rw [List.length_take] at hlt
    rw [List.getElem?_take_of_lt (by omega)] at hi
    exact h1 i u (by omega) hi)
  unfold bestL
  rw [e, List.foldl_append, List.foldl_cons]
  have hs : bestStep p0 p1 p2 ((L.take j).foldl (bestStep p0 p1 p2) none) t = some (cost3 p0 p1 p2 t, t) := by
    cases ho : (L.take j).foldl (bestStep p0 p1 p2) none with
    | none => rfl
    | some b => exact if_pos (hb b ho)
  rw [hs]
  exact fold_stay _ _ fun u hu => h2 u (List.mem_of_mem_drop hu)
theorem least_len {k f m s most : Int} (hk : 1 ≤ k ∧ k ≤ 12) (hf : 0 ≤ f) (hm : 1 ≤ m) (hs : 0 ≤ s) (hmo : 0 ≤ most ∧ most ≤ k) : (leastL k f m s most).length ≤ 100 := by
  unfold leastL
  split
  · simp
  split
  · split <;> simp
  · rw [List.length_map, upI_len]
    omega
theorem ends_eq {k f m s : Int} (hk : 1 ≤ k ∧ k ≤ 12) (hf : 0 ≤ f ∧ f ≤ k) (hm : 1 ≤ m) (hs : 0 ≤ s) : (leastL k f m s (k - f)).isEmpty = !(if s = 0 then decide (k > 3 * f) && decide (k ≥ 2 * f + m) else decide (k ≥ 3 * f + s + m)) := by
  unfold leastL firstI
  by_cases h : (k + s + f) / 2 + 1 > k - f
  · rw [if_pos h]
    by_cases h0 : s = 0
    · rw [if_pos h0, show decide (k > 3 * f) = false from decide_eq_false (by omega)]
      rfl
    · rw [if_neg h0, show decide (k ≥ 3 * f + s + m) = false from decide_eq_false (by omega)]
      rfl
  · rw [if_neg h]
    by_cases h0 : s = 0
    · rw [if_pos h0, if_pos h0, show decide (k > 3 * f) = true from decide_eq_true (by omega)]
      by_cases h1 : f + m ≤ k - f
      · rw [if_pos h1, show decide (k ≥ 2 * f + m) = true from decide_eq_true (by omega)]
        rfl
      · rw [if_neg h1, show decide (k ≥ 2 * f + m) = false from decide_eq_false (by omega)]
        rfl
    · rw [if_neg h0, if_neg h0]
      by_cases h1 : k ≥ 3 * f + s + m
      · rw [decide_eq_true h1]
        unfold upI
        rw [show (k - f + 1 - (k + s + f + m - (k - f))).toNat = ((k - f + 1 - (k + s + f + m - (k - f))).toNat - 1) + 1 by omega, List.range_succ_eq_map]
        rfl
      · rw [show decide (k ≥ 3 * f + s + m) = false from decide_eq_false h1, upI_nil (by omega)]
        rfl
/-! ### triples as data -/
theorem tri_lay (t : Tri) : (triD t).canLay0 = true := by simp [triD, PyData.canLay0, PyData.canLayAll0]
theorem tri_depth (t : Tri) : (triD t).depth ≤ 2 := by simp [triD, PyData.depth, PyData.depthAll]
theorem tris_lay : ∀ L : List Tri, PyData.canLayAll0 (L.map triD) = true
  | [] => by simp [PyData.canLayAll0]
  | t :: r => by simp [PyData.canLayAll0, tri_lay t, tris_lay r]
theorem tris_depth : ∀ L : List Tri, PyData.depthAll (L.map triD) ≤ 2
  | [] => by simp [PyData.depthAll]
  | t :: r => by
    have h1 := tris_depth r
    have h2 := tri_depth t
    simp only [List.map_cons, PyData.depthAll]
    omega
theorem tris_shaped (L : List Tri) : SeqAt.shaped (.tuple (L.map triD)) = true := by
  show ((PyData.tuple (L.map triD)).canLay0 && decide ((PyData.tuple (L.map triD)).depth ≤ 64)) = true
  have h := tris_depth L
  rw [Bool.and_eq_true]
  refine ⟨?_, decide_eq_true ?_⟩
  · simp [PyData.canLay0, tris_lay]
  · simp only [PyData.depth]; omega
theorem ltris_shaped (L : List Tri) : SeqAt.shaped (.list (L.map triD)) = true := by
  show ((PyData.list (L.map triD)).canLay0 && decide ((PyData.list (L.map triD)).depth ≤ 64)) = true
  have h := tris_depth L
  rw [Bool.and_eq_true]
  refine ⟨?_, decide_eq_true ?_⟩
  · simp [PyData.canLay0, tris_lay]
  · simp only [PyData.depth]; omega
theorem c_tri (t : Tri) : Sc (Sc ScF) (triD t) := sc_tup (by show 3 ≤ 10000; decide) fun x h => by
  simp only [List.mem_cons, List.not_mem_nil, or_false] at h
  rcases h with rfl | rfl | rfl <;> exact sc_int _
theorem c_tris {L : List Tri} (h : L.length ≤ 100) : C2 (.tuple (L.map triD)) := sc_tup (by rw [List.length_map]; omega) fun x hx => by
  obtain ⟨t, _, rfl⟩ := List.mem_map.mp hx
  exact c_tri t
theorem c_best (o : Option (Int × Tri)) : C2 (optD o) := by
  cases o with
  | none => exact sc_none
  | some b => exact .inr (.inr (.inr ⟨_, rfl, by show 3 ≤ 10000; decide, fun x h => by
      simp only [List.mem_cons, List.not_mem_nil, or_false] at h
      rcases h with rfl | rfl | rfl <;> exact sc_int _⟩))
theorem kpi_zipA {X : Cx} {K : PySem.W.Frag} (h : X.K = K) {e e2 : Expr} {ta : TA} {p pos tpos : Pos} {elts : List Expr} {kk : Nat} (hg : Gl X "zip") (hm : X.mg "zip" = none) (ha : PA X [e, e2] ta)
    (hs : starEach [e, e2] X.env = (false, eval e X.env) :: starEach [e2] X.env := by rfl) (hpl : (backTo pos (starEach [e2] X.env)).any (·.1) = false := by rfl) :
    PI X (.Tuple elts kk tpos) (.Call (.Name "zip" p) [e, e2] [] pos) (RZ.iZipA K ta) := by
  subst h
  exact RZ.pi_zipA hg hm ha hs hpl
end K26

namespace K26
open PySem PySem.Spec PyProof.Rows L2 Hl
theorem first_at {x : Int} : ∀ {l : List Int}, x ∈ l → ∃ j, l[j]? = some x ∧ ∀ (i : Nat) (z : Int), i < j → l[i]? = some z → z ≠ x
  | [], h => by cases h
  | a :: r, h => by
    by_cases e : a = x
    · exact ⟨0, by rw [e]; rfl, fun i z hi => by omega⟩
    · obtain ⟨j, h1, h2⟩ := first_at (l := r) (by
        rcases List.mem_cons.mp h with h | h
        · exact absurd h.symm e
        · exact h)
      refine ⟨j + 1, h1, fun i z hi hz => ?_⟩
      match i, hi, hz with
      | 0, _, hz =>
        obtain rfl : a = z := Option.some.inj hz
        exact e
      | i + 1, hi, hz => exact h2 i z (by omega) hz
theorem flat_ints : ∀ l : List Int, (l.map V.int).all flatV = true
  | [] => rfl
  | _ :: r => by rw [List.map_cons, List.all_cons, flat_ints r]; rfl
theorem HeapAt.upd {H : Hp} {w q D : Addr} {o : HO} (h : HeapAt H w q) (n1 : D ≠ w) (n2 : D ≠ q) : HeapAt (L2.upd H D o) w q := by
  obtain ⟨cs, st, hw, hq, r⟩ := h
  exact ⟨cs, st, by rw [upd_ne n1.symm]; exact hw, by rw [upd_ne n2.symm]; exact hq, r⟩
theorem Frm.new {H H' : Hp} {w q D : Addr} {o : HO} (h : Frm w q H H') (hD : H D = none) : Frm w q H (L2.upd H' D o) := fun a u n1 n2 e => by
  rw [upd_ne (ne_of_none e hD)]
  exact h a u n1 n2 e
section
variable {P : Program} {w : World} {K : PySem.W.Frag} {mg : Str → Option Value} {base : Heap}
def sp_Aleast : Sp := fun vs H Q _ => ∃ (w q : Addr) (k f m s : Int), vs = [.ref w, .int k, .int f, .int m, .int s] ∧ HeapAt H w q ∧ (1 ≤ k ∧ k ≤ 12) ∧ (0 ≤ f ∧ f ≤ k) ∧ (1 ≤ m ∧ m ≤ 12) ∧ (0 ≤ s ∧ s ≤ 12) ∧ ∀ H', Q (.bl true) H'
theorem ok_Aleast {f : Addr} {fd : FuncData} (F : Fun K "_law_asked_least" "_law_asked_least" s__law_asked_least f fd) (T : Txt K mg) (D__law_draw : Df P w K mg base 1 "_law_draw" ["heap", "many"] sp_draw) (D__law_pick : Df P w K mg base 2 "_law_pick" ["heap", "some"] sp_pick)
    (D__law_least : Df P w K mg base 3 "_law_least" ["k", "f", "m", "spread", "most"] (sp_Lleast K)) (D_least_triples : Df P w K mg base 1 "least_triples" ["k", "f", "m", "spread", "most"] (sp_least K)) (D__law_like : Df P w K mg base 3 "_law_like" ["told", "due"] (spLike K C2))
    (D_cheapest_triple : Df P w K mg base 2 "cheapest_triple" ["k", "f", "m", "spread", "most", "prices"] (sp_cheapest K)) :
    FnOk P w K mg base CX0 7 f fd ["heap", "k", "f", "m", "spread"] sp_Aleast := by
  refine F.ok sc__law_asked_least (fun vs H Q E h => ?_) (fun cdv A outer st H vs Q E hr h => ?_)
  · obtain ⟨_, _, _, _, _, _, rfl, _⟩ := h
    rfl
  · obtain ⟨w, q, k, f, m, s, rfl, hh, hk, hf, hm, hs, fin⟩ := h
    refine ⟨_, (pss_cons (ps_for PassesOwn.never rfl (pi_list (pe_cut (pe_slice sl_list (pe_lst (pa_cons (pv 1) (pa_cons (pe_callB (call_max2 rfl) (by rfl) T.max (by decide +kernel) (pa_cons pe_int (pa_cons (pe_op op_sub (pv 1) (pv 2)) pa_nil))) (pa_cons (pe_call D__law_draw.ok (hr.mono (by first | decide | omega)) (by rfl) D__law_draw.m D__law_draw.kp D__law_draw.b .nil pass0 (pa_cons (pv 0) (pa_cons (pe_op op_add (pv 1) pe_int) pa_nil))) pa_nil)))) (po_some (pe_call D__law_draw.ok (hr.mono (by first | decide | omega)) (by rfl) D__law_draw.m D__law_draw.kp D__law_draw.b .nil pass0 (pa_cons (pv 0) (pa_cons pe_int pa_nil)))) po_none))) (pg_name (i := 5) sc__law_asked_least.nd rfl (by first | exact Or.inl rfl | exact Or.inr rfl))
  (pss_cons (ps_set (i := 6) sc__law_asked_least.nd rfl (by first | exact Or.inl rfl | exact Or.inr rfl) (pe_call D__law_least.ok (hr.mono (by first | decide | omega)) (by rfl) D__law_least.m D__law_least.kp D__law_least.b .nil pass0 (pa_cons (pv 1) (pa_cons (pv 2) (pa_cons (pv 3) (pa_cons (pv 4) (pa_cons (pv 5) pa_nil)))))))
  (pss_cons (ps_if (pt_not (pt_val (pe_call D__law_like.ok (hr.mono (by first | decide | omega)) (by rfl) D__law_like.m D__law_like.kp D__law_like.b .nil pass0 (pa_cons (pe_call D_least_triples.ok (hr.mono (by first | decide | omega)) (by rfl) D_least_triples.m D_least_triples.kp D_least_triples.b .nil pass0 (pa_cons (pv 1) (pa_cons (pv 2) (pa_cons (pv 3) (pa_cons (pv 4) (pa_cons (pv 5) pa_nil)))))) (pa_cons (pe_callTy call_tuple_of (by rfl) T.tuple (by decide +kernel) (pa_cons (pv 6) pa_nil)) pa_nil)))))
  (pss_one (ps_ret pe_bl))
  pss_nil)
  (pss_cons (ps_set (i := 7) sc__law_asked_least.nd rfl (by first | exact Or.inl rfl | exact Or.inr rfl) (pe_cut (pe_callTy call_tuple_of (by rfl) T.tuple (by decide +kernel) (pa_cons (pe_lc (own := [("turn", 11)]) (by rfl) sc__law_asked_least.nd (pi_range1 (by rfl) T.range (pa_cons pe_int pa_nil)) (blkOk_by (own := [("turn", 11)]) (N := N__law_asked_least) (sc := defScope s__law_asked_least) (by decide +kernel)) (fun _ _ _ _ _ => (pg_name (i := 11) sc__law_asked_least.nd rfl (by first | exact Or.inl rfl | exact Or.inr rfl))) (fun _ _ _ _ _ => pts_nil) (fun _ _ _ _ _ => (pe_call D__law_pick.ok (hr.mono (by first | decide | omega)) (by rfl) D__law_pick.m D__law_pick.kp D__law_pick.b .nil pass0 (pa_cons (pv 0) (pa_cons (pe_lst (pa_cons pe_int (pa_cons pe_int (pa_cons pe_int (pa_cons pe_int (pa_cons pe_int (pa_cons (pe_op op_pow pe_int pe_int) (pa_cons (pe_call D__law_draw.ok (hr.mono (by first | decide | omega)) (by rfl) D__law_draw.m D__law_draw.kp D__law_draw.b .nil pass0 (pa_cons (pv 0) (pa_cons pe_int pa_nil))) pa_nil)))))))) pa_nil))))) pa_nil))))
  (pss_cons (ps_setLc (i := 8) (own := [("triple", 12)]) (by rfl) sc__law_asked_least.nd rfl rfl (sw_true rfl rfl rfl (by decide +kernel)) (pi_list (pv 6)) (blkOk_by (own := [("triple", 12)]) (N := N__law_asked_least) (sc := defScope s__law_asked_least) (by decide +kernel)) (fun _ _ _ _ _ => (pg_name (i := 12) sc__law_asked_least.nd rfl (by first | exact Or.inl rfl | exact Or.inr rfl))) (fun _ _ _ _ _ => pts_nil) (fun _ _ _ _ _ => (pe_callB (kcr_sum (K := K) rfl rfl) (by rfl) T.sum (by decide +kernel) (pa_cons (pe_lc (own := [("one", 13), ("price", 14)]) (by rfl) sc__law_asked_least.nd (kpi_zipA (K := K) rfl (by rfl) T.zip (pa_cons (pv 12) (pa_cons (pv 7) pa_nil))) (blkOk_by (own := [("one", 13), ("price", 14)]) (by kernel_rfl)) (fun _ _ _ _ _ => (kpg_tup (K := K) (n := 2) rfl rfl (pgs_cons (pg_name (i := 13) sc__law_asked_least.nd rfl (by first | exact Or.inl rfl | exact Or.inr rfl)) (pgs_cons (pg_name (i := 14) sc__law_asked_least.nd rfl (by first | exact Or.inl rfl | exact Or.inr rfl)) pgs_nil)))) (fun _ _ _ _ _ => pts_nil) (fun _ _ _ _ _ => (pe_op op_mul (pv 13) (pv 14)))) pa_nil))))
  (pss_cons (ps_set (i := 9) sc__law_asked_least.nd rfl (by first | exact Or.inl rfl | exact Or.inr rfl) (pe_cut (pe_ifExp (pt_cmpR (op_neD hr.units) (pv 6) (pe_lst pa_nil) (nomark _)) (pe_ix ix_list (pv 6) (pe_bm PySem.F.plainAttrs_list PySem.F.slot_list_index PySem.F.type_list_index mt_index (pv 8) (pa_cons (pe_callB (cr_min rfl) (by rfl) T.min (by decide +kernel) (pa_cons (pv 8) pa_nil)) pa_nil)) (fun _ _ => rfl)) pe_non)))
  (pss_one (ps_if (pt_not (pt_val (pe_call D__law_like.ok (hr.mono (by first | decide | omega)) (by rfl) D__law_like.m D__law_like.kp D__law_like.b .nil pass0 (pa_cons (pe_call D_cheapest_triple.ok (hr.mono (by first | decide | omega)) (by rfl) D_cheapest_triple.m D_cheapest_triple.kp D_cheapest_triple.b .nil pass0 (pa_cons (pv 1) (pa_cons (pv 2) (pa_cons (pv 3) (pa_cons (pv 4) (pa_cons (pv 5) (pa_cons (pv 7) pa_nil))))))) (pa_cons (pv 9) pa_nil)))))
  (pss_one (ps_ret pe_bl))
  pss_nil))))))))
  (pss_cons (ps_set (i := 10) sc__law_asked_least.nd rfl (by first | exact Or.inl rfl | exact Or.inr rfl) (pe_cmpR (op_neD hr.units) (pe_call D_least_triples.ok (hr.mono (by first | decide | omega)) (by rfl) D_least_triples.m D_least_triples.kp D_least_triples.b .nil pass0 (pa_cons (pv 1) (pa_cons (pv 2) (pa_cons (pv 3) (pa_cons (pv 4) (pa_cons (pe_op op_sub (pv 1) (pv 2)) pa_nil)))))) (pe_tup pa_nil) (nomark _)))
  (pss_cons (ps_if (pt_cmpR op_eq (pv 4) pe_int (nomark _))
  (pss_one (ps_ret (pe_cmpR op_eq (pv 10) (pe_cut (pe_and (pe_cmpR op_gt (pv 1) (pe_op op_mul pe_int (pv 2)) (nomark _)) (pe_one (pe_cmpR op_ge (pv 1) (pe_op op_add (pe_op op_mul pe_int (pv 2)) (pv 3)) (nomark _))))) (nomark _))))
  pss_nil)
  (pss_one (ps_ret (pe_cmpR op_eq (pv 10) (pe_cmpR op_ge (pv 1) (pe_op op_add (pe_op op_add (pe_op op_mul pe_int (pv 2)) (pv 4)) (pv 3)) (nomark _)) (nomark _))))))), ?_⟩
    -- the widths
    refine ⟨fun v H' => ∃ (p : Addr) (xs : List Int), v = .ref p ∧ H' p = some (.lst (xs.map V.int)) ∧ (∀ x ∈ xs, 0 ≤ x ∧ x ≤ k) ∧ p ≠ w ∧ p ≠ q ∧ HeapAt H' w q, ?_, ?_⟩
    · refine ⟨_, rfl, _, rfl, _, rfl, _, _, rfl, rfl, _, _, rfl, _, rfl, _, rfl, _, _, rfl, rfl, w, q, k + 1, rfl, hh, by omega, by omega, fun r H1 r0 r1 fr1 hh1 => ⟨(by show 3 ≤ sizeLine; decide), fun p hp => ?_⟩⟩
      have e : (if k - f > 0 then k - f else 0) = mx 0 (k - f) := rfl
      have c := mx_cases 0 (k - f)
      obtain ⟨n1, n2⟩ := hh1.ne hp
      have hh2 := hh1.upd (o := .lst [.int k, .int (mx 0 (k - f)), .int r]) n1 n2
      refine ⟨_, rfl, w, q, 2, rfl, hh2, by decide, by decide, fun r2 H3 a0 a1 fr3 hh3 => ?_⟩
      have hp3 := fr3 p _ n1 n2 (upd_same (H := H1) (a := p) (o := .lst [.int k, .int (mx 0 (k - f)), .int r]))
      refine ⟨r2, rfl, p, _, rfl, SqL.of hp3, fun p2 hp2 => ?_⟩
      obtain ⟨n3, n4⟩ := hh3.ne hp2
      refine ⟨p2, ([k, mx 0 (k - f), r].drop (HT.sIx 3 0 (some r2))).take (HT.sIx 3 3 none - HT.sIx 3 0 (some r2)), rfl, ?_, fun x hx => ?_, n3, n4, hh3.upd n3 n4⟩
      · rw [upd_same]
        unfold cutV
        rw [List.map_take, List.map_drop]
        rfl
      · have := List.mem_of_mem_drop (List.mem_of_mem_take hx)
        simp only [List.mem_cons, List.not_mem_nil, or_false] at this
        omega
    rintro v H1 ⟨p, xs, rfl, hp1, hxs, npw, npq, hh1⟩
    refine ⟨p, rfl, ⟨_, SqL.of hp1⟩, for_list (xs := xs.map V.int) (fun i σ H' => ∃ x5 x6 x7 x8 x9 x10 x11 x12 x13 x14, σ = [some (.ref w), some (.int k), some (.int f), some (.int m), some (.int s), x5, x6, x7, x8, x9, x10, x11, x12, x13, x14] ∧ HeapAt H' w q ∧ H' p = some (.lst (xs.map V.int)))
      ⟨_, _, _, _, _, _, _, _, _, _, rfl, hh1, hp1⟩ (fun i σ H' _ ⟨_, _, _, _, _, _, _, _, _, _, _, _, h⟩ => SqL.of h) ?_ ?_⟩
    · rintro i y σ H2 hy ⟨x5, x6, x7, x8, x9, x10, x11, x12, x13, x14, rfl, hh2, hp2⟩
      obtain ⟨most, rfl, hmo⟩ := mem_ints hy
      have hmost := hxs most (List.mem_of_getElem? hmo)
      -- due
      refine ⟨_, rfl, _, rfl, _, rfl, _, rfl, _, rfl, k, f, m, s, most, rfl, hk, hf.1, hm.1, hs.1, hmost, fun D H3 us sm3 hDn hD3 hE3 => ?_⟩
      refine ⟨_, rfl, _, rfl, _, rfl, _, rfl, _, rfl, k, f, m, s, most, rfl, hk, ⟨hf.1, by omega⟩, hm, hs, ⟨hmost.1, by omega⟩, fun t us4 H4 sm4 ht4 hE4 => ?_⟩
      have hll := least_len hk hf.1 hm.1 hs.1 hmost
      have hsmall : ∀ u, u ∈ leastL k f m s most → Small u := fun u h => least_small hk ⟨hf.1, by omega⟩ hm hs ⟨hmost.1, by omega⟩ h
      refine ⟨_, rfl, D, us, rfl, .inl ⟨SqL.of (sm4 _ _ hD3), fun t2 ht2 => ?_⟩⟩
      have s5 := same_new (o := .tup us) ht2
      refine ⟨_, _, _, rfl, .tup (seqT s5 ht4) (ers_dps (hE4.mono fun y a h => h.mono s5)), .tup (SqT.of upd_same) (ers_dps (hE3.mono fun y a h => h.mono (sm4.trans s5))), c_tris hll, fun H6 sm6 => ⟨_, rfl, iteF ?_⟩⟩
      have sm36 := (sm4.trans s5).trans sm6
      have sm26 := sm3.trans sm36
      have hh6 := hh2.same sm26
      have hp6 := sm26 _ _ hp2
      have hD6 := sm36 _ _ hD3
      have hE6 := hE3.mono fun y a h => h.mono sm36
      obtain ⟨nDw, nDq⟩ := hh2.ne hDn
      clear s5 ht2 hE4 ht4 sm4 sm36 sm3 sm26 sm6 hE3 hD3 hh2 hp2 hDn
      -- prices
      refine ⟨fun v H' => ∃ (b : Addr) (p0 p1 p2 : Int), v = .ref b ∧ SqT K H' b [.int p0, .int p1, .int p2] ∧ HeapAt H' w q ∧ Frm w q H6 H', ?_, ?_⟩
      · refine ⟨3, rfl, by decide, by decide, fun D2 hD2 => ?_⟩
        obtain ⟨nw, nq⟩ := hh6.ne hD2
        refine lc_inv (walk_range (lo := 0) (n := (3 : Int).toNat)) (by decide) (fun H H' => (HeapAt H w q → HeapAt H' w q) ∧ Frm w q H H') (fun H => ⟨id, Frm.refl _ _ _⟩) (fun _ _ _ a b => ⟨fun h => b.1 (a.1 h), a.2.trans b.2⟩) (fun H o r => ⟨fun h => (r.1 h).upd nw nq, r.2.new hD2⟩) (fun H H' o _ r e => r.2 _ _ nw nq e)
          ErI (fun _ _ _ _ _ _ h => h) (fun _ _ _ _ _ h => h) (fun i l => l.length = i) rfl (fun _ _ => trivial) ?_ ?_
        · rintro i x H7 H8 l hi r7 - hl ⟨rfl, rfl⟩ A B hA hB
          have hh7 := r7.1 hh6
          refine ⟨rfl, t_yes ?_⟩
          refine ⟨_, rfl, _, _, rfl, rfl, ⟨by decide, by decide, by decide⟩, _, rfl, w, q, 99, rfl, hh7, by decide, by decide, fun r H9 r0 r1 fr9 hh9 => ⟨(by show 7 ≤ sizeLine; decide), fun p2 hp2 => ?_⟩⟩
          obtain ⟨n1, n2⟩ := hh9.ne hp2
          refine ⟨w, q, p2, _, rfl, hh9.upd n1 n2, upd_same, n1, n2, (by show 0 < 7; decide), (by show 7 < 1000000; decide), fun v H10 hv fr10 hh10 => ?_⟩
          obtain ⟨z, rfl⟩ : ∃ z : Int, v = .int z := by
            simp only [List.mem_cons, List.not_mem_nil, or_false] at hv
            rcases hv with rfl | rfl | rfl | rfl | rfl | rfl | rfl <;> exact ⟨_, rfl⟩
          exact hA _ z _ ⟨fun _ => hh10, fr9.trans ((Frm.same (same_new hp2)).trans fr10)⟩ rfl (by rw [List.length_append, hl]; rfl)
        · rintro H7 us7 l r7 hD7 hE7 hl
          have e := hE7.ints
          subst e
          obtain ⟨p0, p1, p2, rfl⟩ : ∃ p0 p1 p2 : Int, l = [p0, p1, p2] := by
            match l, hl with
            | [a, b, c], _ => exact ⟨a, b, c, rfl⟩
          refine ⟨D2, _, rfl, .inl ⟨SqL.of hD7, fun b hb => ?_⟩⟩
          exact ⟨b, p0, p1, p2, rfl, SqT.of upd_same, (r7.1 hh6).same (same_new hb), r7.2.trans (Frm.same (same_new hb))⟩
      rintro v H7 ⟨b, p0, p1, p2, rfl, hb7, hh7, fr7⟩
      have hp7 := fr7 _ _ npw npq hp6
      have hD7 := fr7 _ _ nDw nDq hD6
      have hE7 : Ers (ErT K) H7 us (leastL k f m s most) := hE6.mono fun y a h => by
        obtain ⟨c, rfl, hc⟩ := tri_at h
        exact .tup (seqT_frm fr7 hh6 hc) (.cons (.int _) (.cons (.int _) (.cons (.int _) .nil)))
      clear fr7 hp6 hD6 hE6 hh6
      generalize hL : leastL k f m s most = L at hE7 hll hsmall
      have hul := hE7.len
      -- costs
      refine ⟨_, rfl, D, rfl, ⟨_, SqL.of hD7⟩, fun D3 hD3 => ?_⟩
      refine lc_same (walk_list (xs := us)) (by omega) hD3 ErI (fun _ _ _ _ _ _ h => h) (fun _ _ _ _ _ h => h) (fun j l => l = (L.take j).map fun t => cost3 p0 p1 p2 t) rfl (fun H12 sm12 => SqL.of (sm12 _ _ hD7)) ?_ ?_
      · rintro j y H8 H9 l hj sm8 - rfl ⟨rfl, hy⟩ A B hA hB
        obtain ⟨u, hu, hd⟩ := hE7.get hy
        obtain ⟨c, rfl, hc⟩ := tri_at (hd.mono sm8)
        have hsu := hsmall u (List.mem_of_getElem? hu)
        have hb8 := seqT sm8 hb7
        refine ⟨rfl, t_yes ?_⟩
        refine ⟨_, rfl, _, rfl, c, b, _, _, rfl, .inr ⟨hc, hb8, fun D4 hD4 => ?_⟩⟩
        refine lc_same (walk_zipT (n := 3) rfl rfl) (by decide) hD4 ErI (fun _ _ _ _ _ _ h => h) (fun _ _ _ _ _ h => h)
          (fun j l => l = [u.1 * p0, u.2.1 * p1, u.2.2 * p2].take j) rfl (fun H2 sm => ⟨seqT sm hc, seqT sm hb8⟩) ?_ ?_
        · rintro j x H3 H4 l hj sm3 - rfl ⟨T', y1, y2, rfl, hT, rfl, e1, e2⟩ A B hA hB
          obtain ⟨n1, n2, rfl, rfl, hn1, e⟩ : ∃ n1 n2 : Int, y1 = .int n1 ∧ y2 = .int n2 ∧ (-100 ≤ n1 ∧ n1 ≤ 100) ∧ [u.1 * p0, u.2.1 * p1, u.2.2 * p2].take (j + 1) = [u.1 * p0, u.2.1 * p1, u.2.2 * p2].take j ++ [n1 * n2] := by
            match j, hj, e1, e2 with
            | 0, _, e1, e2 => exact ⟨_, _, (Option.some.inj e1).symm, (Option.some.inj e2).symm, hsu.1, rfl⟩
            | 1, _, e1, e2 => exact ⟨_, _, (Option.some.inj e1).symm, (Option.some.inj e2).symm, hsu.2.1, rfl⟩
            | 2, _, e1, e2 => exact ⟨_, _, (Option.some.inj e1).symm, (Option.some.inj e2).symm, hsu.2.2, rfl⟩
          refine ⟨T', _, rfl, SqT.of upd_same, rfl, _, _, rfl, _, [], rfl, rfl, rfl, t_yes ?_⟩
          refine ⟨_, rfl, _, rfl, _, _, rfl, rfl, .inl ⟨by omega, by omega⟩, ?_⟩
          exact hA _ _ _ (same_new hT) rfl e.symm
        · rintro H3 us3 l sm3 hD3 hE3 rfl
          have e := hE3.ints
          subst e
          refine ⟨D4, _, rfl, SqL.of hD3, ?_⟩
          rw [sum3]
          refine hA _ _ _ sm3 rfl ?_
          rw [List.take_succ, hu, List.map_append]
          rfl
      rintro H8 us8 l sm8 hD8 hE8 rfl
      have e := hE8.ints
      subst e
      rw [hul, List.take_length] at hD8
      have hD78 := sm8 _ _ hD7
      have hE78 := hE7.mono fun y a h => h.mono sm8
      have hh8 := hh7.same sm8
      have hp8 := sm8 _ _ hp7
      have hb8 := seqT sm8 hb7
      clear hE8 sm8 hD3 hE7 hD7 hh7 hp7 hb7
      -- best
      refine ⟨fun v H' => Dp K H' v (optD (bestL p0 p1 p2 L)) ∧ Same H8 H', ?_, ?_⟩
      · refine ⟨_, rfl, Nat.zero_le _, fun e0 he0 => ?_⟩
        have s9 := same_new (o := .lst []) he0
        refine ⟨.list (L.map triD), .list [], .lst (SqL.of (s9 _ _ hD78)) (ers_dps (hE78.mono fun y a h => h.mono s9)), .lst (SqL.of upd_same) .nil, ltris_shaped L, rfl, _, rfl, ?_⟩
        cases L with
        | nil => exact iteF ⟨.non, s9⟩
        | cons t0 r0 =>
          refine iteT ?_
          have hD9 := s9 _ _ hD8
          have hDu := s9 _ _ hD78
          refine ⟨_, rfl, _, rfl, .inl ⟨rfl, _, SqL.of hD9⟩, _, rfl, D3, _, rfl, SqL.of hD9, by rw [List.length_map]; exact Nat.succ_pos _, fun mi hmi hle => ?_⟩
          obtain ⟨j, hj, hno⟩ := first_at hmi
          rw [List.getElem?_map] at hj
          cases ht : (t0 :: r0)[j]? with
          | none => rw [ht] at hj; cases hj
          | some t =>
          rw [ht] at hj
          obtain rfl : cost3 p0 p1 p2 t = mi := Option.some.inj hj
          have hcj : (((t0 :: r0).map fun t => cost3 p0 p1 p2 t).map V.int)[j]? = some (.int (cost3 p0 p1 p2 t)) := by
            rw [List.getElem?_map, List.getElem?_map, ht]; rfl
          refine ⟨D3, _, _, j, _, rfl, rfl, SqL.of hD9, rfl, flat_ints _, hcj, by simp [eqV], fun i z hi hz => ?_, ?_⟩
          · obtain ⟨c, rfl, hc⟩ := mem_ints hz
            have := hno i c hi hc
            simp [eqV, this]
          · obtain ⟨hjl, _⟩ := List.getElem?_eq_some_iff.mp ht
            have hju : us[j]? = some (us[j]'(by omega)) := List.getElem?_eq_getElem (by omega)
            obtain ⟨t', ht', hd⟩ := hE78.get hju
            obtain rfl : t = t' := Option.some.inj (ht.symm.trans ht')
            refine ⟨D, us, _, _, rfl, rfl, SqL.of hDu, atI_nat (j := j) hju, ?_, s9⟩
            rw [best_first ht (fun i u hi hu => ?_) (fun u hu => hle _ (List.mem_map.mpr ⟨u, hu, rfl⟩))]
            · exact hd.mono s9
            · have h1 := hle _ (List.mem_map.mpr ⟨u, List.mem_of_getElem? hu, rfl⟩)
              have h2 := hno i (cost3 p0 p1 p2 u) hi (by rw [List.getElem?_map, hu]; rfl)
              omega
      rintro v H9 ⟨hv, sm9⟩
      refine ⟨_, rfl, _, rfl, _, rfl, _, rfl, _, rfl, _, rfl, k, f, m, s, most, p0, p1, p2, b, rfl, seqT sm9 hb8, hk, ⟨hf.1, by omega⟩, hm, hs, ⟨hmost.1, by omega⟩, fun v' H10 sm10 hv' => ?_⟩
      rw [hL] at hv'
      refine ⟨_, rfl, _, _, _, rfl, hv', dp_mono sm10 hv, c_best _, fun H11 sm11 => ⟨_, rfl, iteF ?_⟩⟩
      have smx := (sm9.trans sm10).trans sm11
      exact ⟨_, _, _, _, _, _, _, _, _, _, rfl, hh8.same smx, smx _ _ hp8⟩
    · rintro σ H2 ⟨x5, x6, x7, x8, x9, x10, x11, x12, x13, x14, rfl, hh2, hp2⟩
      refine ⟨_, rfl, _, rfl, _, rfl, _, rfl, _, rfl, _, rfl, _, _, rfl, rfl, k, f, m, s, k - f, rfl, hk, ⟨hf.1, by omega⟩, hm, hs, ⟨by omega, by omega⟩, fun t us H3 sm3 ht hE => ⟨Nat.zero_le _, fun e0 he0 => ?_⟩⟩
      have s4 := same_new (o := .tup []) he0
      refine ⟨.tuple ((leastL k f m s (k - f)).map triD), .tuple [], .tup (seqT s4 ht) (ers_dps (hE.mono fun y a h => h.mono s4)), .tup (SqT.of upd_same) .nil, tris_shaped _, rfl, ?_⟩
      have ee : (!PyData.eqv (.tuple ((leastL k f m s (k - f)).map triD)) (.tuple [])) = (if s = 0 then decide (k > 3 * f) && decide (k ≥ 2 * f + m) else decide (k ≥ 3 * f + s + m)) := by
        have h := ends_eq (k := k) (f := f) (m := m) (s := s) hk hf hm.1 hs.1
        rw [← Bool.not_not (b := if s = 0 then decide (k > 3 * f) && decide (k ≥ 2 * f + m) else decide (k ≥ 3 * f + s + m)), ← h]
        cases leastL k f m s (k - f) <;> rfl
      rw [ee]
      refine ⟨_, rfl, rfl, _, rfl, eqz (fun z => ?_) (fun z => ?_)⟩
      · rw [if_pos z]
        refine ⟨_, rfl, fun v H' => v = .bl (decide (k > 3 * f) && decide (k ≥ 2 * f + m)), ?_, ?_⟩
        · refine ⟨_, rfl, _, rfl, _, _, rfl, rfl, .inl ⟨by decide, by decide⟩, _, _, rfl, rfl, and_rd (fun h => ?_) (fun h => ?_)⟩
          · refine ⟨_, rfl, _, rfl, _, _, rfl, rfl, .inl ⟨by decide, by decide⟩, _, rfl, _, _, rfl, rfl, _, _, rfl, rfl, ?_⟩
            rw [h, Bool.true_and]
          · rw [h, Bool.false_and]
        · rintro v H' rfl
          refine ⟨rfl, ?_⟩
          rw [decide_eq_true rfl]
          exact fin _
      · rw [if_neg z]
        refine ⟨_, rfl, _, rfl, _, rfl, _, _, rfl, rfl, .inl ⟨by decide, by decide⟩, _, rfl, _, _, rfl, rfl, _, rfl, _, _, rfl, rfl, _, _, rfl, rfl, rfl, ?_⟩
        rw [decide_eq_true rfl]
        exact fin _
end
end K26

namespace K26
open PySem PySem.Spec PyProof.Rows L2 Hl
theorem kit_self {K : PySem.W.Frag} (C : Addr) : PySem.W.kitOne K (.ref C) (.ref C) = some true := by
  unfold PySem.W.kitOne
  rw [if_pos (by simp)]
theorem ers_frm {K : PySem.W.Frag} {H H' : Hp} {w q : Addr} {us : List V} {L : List Tri} (fr : Frm w q H H') (hh : HeapAt H w q) (h : Ers (ErT K) H us L) : Ers (ErT K) H' us L := h.mono fun y a h => by
  obtain ⟨c, rfl, hc⟩ := tri_at h
  exact .tup (seqT_frm fr hh hc) (.cons (.int _) (.cons (.int _) (.cons (.int _) .nil)))
/-- the list of edges as it stands -/
def EdgAt (K : PySem.W.Frag) (H : Hp) (w q E : Addr) (n : Nat) : Prop := ∃ us L, H E = some (.lst us) ∧ Ers (ErT K) H us L ∧ us.length = n ∧ E ≠ w ∧ E ≠ q
section
variable {P : Program} {w : World} {K : PySem.W.Frag} {mg : Str → Option Value} {base : Heap}
def sp_law (K : PySem.W.Frag) : Sp := fun vs H Q _ => ∃ (a : Addr) (ns : List Int), vs = [.ref a] ∧ SqL K H a (ns.map V.int) ∧ ns.length ≤ 63 ∧ ∀ H', Q (.bl true) H'
theorem ok_law {f : Addr} {fd : FuncData} (F : Fun K "law" "law" s_law f fd) (T : Txt K mg) (D__law_heap : Df P w K mg base 1 "_law_heap" ["script"] (sp_heap K)) (D__law_pick : Df P w K mg base 2 "_law_pick" ["heap", "some"] sp_pick) (D__law_draw : Df P w K mg base 1 "_law_draw" ["heap", "many"] sp_draw)
    (D__law_asked_safety : Df P w K mg base 7 "_law_asked_safety" ["heap", "k", "f", "m", "spread", "d", "triple"] (sp_safety K)) (D__law_asked_borne : Df P w K mg base 7 "_law_asked_borne" ["k", "f", "m", "spread", "d", "triple"] (sp_borne K))
    (D__law_asked_least : Df P w K mg base 7 "_law_asked_least" ["heap", "k", "f", "m", "spread"] sp_Aleast) : FnOk P w K mg base CX0 8 f fd ["script"] (sp_law K) := by
  refine F.ok sc_law (fun vs H Q E h => ?_) (fun cdv A outer s H vs Q E hr h => ?_)
  · obtain ⟨_, _, rfl, _⟩ := h
    rfl
  · obtain ⟨a, ns, rfl, hS, hl, fin⟩ := h
    refine ⟨_, (pss_cons (ps_set (i := 1) sc_law.nd rfl (by first | exact Or.inl rfl | exact Or.inr rfl) (pe_call D__law_heap.ok (hr.mono (by first | decide | omega)) (by rfl) D__law_heap.m D__law_heap.kp D__law_heap.b .nil pass0 (pa_cons (pv 0) pa_nil)))
  (pss_cons (ps_set (i := 2) sc_law.nd rfl (by first | exact Or.inl rfl | exact Or.inr rfl) (pe_call D__law_pick.ok (hr.mono (by first | decide | omega)) (by rfl) D__law_pick.m D__law_pick.kp D__law_pick.b .nil pass0 (pa_cons (pv 1) (pa_cons (pe_lst (pa_cons pe_int (pa_cons (pe_op op_add pe_int (pe_call D__law_draw.ok (hr.mono (by first | decide | omega)) (by rfl) D__law_draw.m D__law_draw.kp D__law_draw.b .nil pass0 (pa_cons (pv 1) (pa_cons pe_int pa_nil)))) (pa_cons (pe_op op_add pe_int (pe_call D__law_draw.ok (hr.mono (by first | decide | omega)) (by rfl) D__law_draw.m D__law_draw.kp D__law_draw.b .nil pass0 (pa_cons (pv 1) (pa_cons pe_int pa_nil)))) pa_nil)))) pa_nil))))
  (pss_cons (ps_par (i := 3) (j := 4) rfl sc_law.nd rfl rfl (by decide) rfl rfl (pa_cons (pe_callB (call_min2 rfl) (by rfl) T.min (by decide +kernel) (pa_cons (pv 2) (pa_cons (pe_call D__law_pick.ok (hr.mono (by first | decide | omega)) (by rfl) D__law_pick.m D__law_pick.kp D__law_pick.b .nil pass0 (pa_cons (pv 1) (pa_cons (pe_lst (pa_cons pe_int (pa_cons pe_int (pa_cons pe_int (pa_cons pe_int (pa_cons pe_int (pa_cons (pe_call D__law_draw.ok (hr.mono (by first | decide | omega)) (by rfl) D__law_draw.m D__law_draw.kp D__law_draw.b .nil pass0 (pa_cons (pv 1) (pa_cons (pe_op op_add (pv 2) pe_int) pa_nil))) pa_nil))))))) pa_nil))) pa_nil))) (pa_cons (pe_op op_add pe_int (pe_call D__law_draw.ok (hr.mono (by first | decide | omega)) (by rfl) D__law_draw.m D__law_draw.kp D__law_draw.b .nil pass0 (pa_cons (pv 1) (pa_cons (pe_callB (call_min2 rfl) (by rfl) T.min (by decide +kernel) (pa_cons pe_int (pa_cons (pv 2) pa_nil))) pa_nil)))) pa_nil)) (by rfl))
  (pss_cons (ps_par (i := 5) (j := 6) rfl sc_law.nd rfl rfl (by decide) rfl rfl (pa_cons (pe_call D__law_pick.ok (hr.mono (by first | decide | omega)) (by rfl) D__law_pick.m D__law_pick.kp D__law_pick.b .nil pass0 (pa_cons (pv 1) (pa_cons (pe_lst (pa_cons pe_int (pa_cons pe_int (pa_cons (pe_callB (call_min2 rfl) (by rfl) T.min (by decide +kernel) (pa_cons pe_int (pa_cons (pv 2) pa_nil))) (pa_cons (pe_call D__law_draw.ok (hr.mono (by first | decide | omega)) (by rfl) D__law_draw.m D__law_draw.kp D__law_draw.b .nil pass0 (pa_cons (pv 1) (pa_cons (pe_op op_add (pv 2) pe_int) pa_nil))) pa_nil))))) pa_nil))) (pa_cons (pe_op op_add pe_int (pe_call D__law_pick.ok (hr.mono (by first | decide | omega)) (by rfl) D__law_pick.m D__law_pick.kp D__law_pick.b .nil pass0 (pa_cons (pv 1) (pa_cons (pe_lst (pa_cons pe_int (pa_cons pe_int (pa_cons (pe_call D__law_draw.ok (hr.mono (by first | decide | omega)) (by rfl) D__law_draw.m D__law_draw.kp D__law_draw.b .nil pass0 (pa_cons (pv 1) (pa_cons pe_int pa_nil))) (pa_cons (pe_call D__law_draw.ok (hr.mono (by first | decide | omega)) (by rfl) D__law_draw.m D__law_draw.kp D__law_draw.b .nil pass0 (pa_cons (pv 1) (pa_cons pe_int pa_nil))) pa_nil))))) pa_nil)))) pa_nil)) (by rfl))
  (pss_cons (ps_set (i := 7) sc_law.nd rfl (by first | exact Or.inl rfl | exact Or.inr rfl) (pe_cut (pe_tup (pa_cons (pe_op op_add pe_int (pe_call D__law_draw.ok (hr.mono (by first | decide | omega)) (by rfl) D__law_draw.m D__law_draw.kp D__law_draw.b .nil pass0 (pa_cons (pv 1) (pa_cons (pv 2) pa_nil)))) (pa_cons (pe_op op_add pe_int (pe_call D__law_draw.ok (hr.mono (by first | decide | omega)) (by rfl) D__law_draw.m D__law_draw.kp D__law_draw.b .nil pass0 (pa_cons (pv 1) (pa_cons (pv 2) pa_nil)))) (pa_cons (pe_op op_add pe_int (pe_call D__law_draw.ok (hr.mono (by first | decide | omega)) (by rfl) D__law_draw.m D__law_draw.kp D__law_draw.b .nil pass0 (pa_cons (pv 1) (pa_cons (pv 2) pa_nil)))) pa_nil))))))
  (pss_cons (ps_par (i := 8) (j := 9) rfl sc_law.nd rfl rfl (by decide) rfl rfl (pa_cons (pe_op op_fdivN (pe_op op_add (pe_op op_add (pv 2) (pv 5)) (pv 3)) pe_int) (pa_cons (pe_op op_add (pe_op op_add (pv 2) (pv 5)) (pv 3)) pa_nil)) (by rfl))
  (pss_cons (ps_set (i := 10) sc_law.nd rfl (by first | exact Or.inl rfl | exact Or.inr rfl) (pe_cut (pe_lst (pa_cons (pv 7) (pa_cons (pe_tup (pa_cons (pv 8) (pa_cons (pe_ix ix_tup (pv 7) pe_int (fun _ _ => rfl)) (pa_cons (pe_ix ix_tup (pv 7) pe_int (fun _ _ => rfl)) pa_nil)))) (pa_cons (pe_tup (pa_cons (pe_op op_add (pv 8) pe_int) (pa_cons (pe_ix ix_tup (pv 7) pe_int (fun _ _ => rfl)) (pa_cons (pe_op op_sub (pv 9) (pe_ix ix_tup (pv 7) pe_int (fun _ _ => rfl))) pa_nil)))) (pa_cons (pe_tup (pa_cons (pe_op op_add (pv 8) pe_int) (pa_cons (pe_ix ix_tup (pv 7) pe_int (fun _ _ => rfl)) (pa_cons (pe_op op_sub (pe_op op_add (pv 9) pe_int) (pe_ix ix_tup (pv 7) pe_int (fun _ _ => rfl))) pa_nil)))) pa_nil)))))))
  (pss_cons (ps_set (i := 10) sc_law.nd rfl (by first | exact Or.inl rfl | exact Or.inr rfl) (pe_cut (pe_op op_cat (pv 10) (pe_lst (pa_cons (pe_tup (pa_cons (pe_op op_add (pv 8) pe_int) (pa_cons (pe_ix ix_tup (pv 7) pe_int (fun _ _ => rfl)) (pa_cons (pe_op op_sub (pe_op op_add (pv 9) (pv 4)) (pe_ix ix_tup (pv 7) pe_int (fun _ _ => rfl))) pa_nil)))) (pa_cons (pe_tup (pa_cons (pe_op op_add (pv 8) pe_int) (pa_cons (pe_ix ix_tup (pv 7) pe_int (fun _ _ => rfl)) (pa_cons (pe_op op_sub (pe_op op_sub (pe_op op_add (pv 9) (pv 4)) pe_int) (pe_ix ix_tup (pv 7) pe_int (fun _ _ => rfl))) pa_nil)))) (pa_cons (pe_tup (pa_cons (pe_op op_add (pv 8) pe_int) (pa_cons (pe_op op_add (pv 3) (pv 4)) (pa_cons pe_int pa_nil)))) pa_nil)))))))
  (pss_cons (ps_set (i := 10) sc_law.nd rfl (by first | exact Or.inl rfl | exact Or.inr rfl) (pe_cut (pe_op op_cat (pv 10) (pe_lst (pa_cons (pe_tup (pa_cons (pe_op op_add (pv 8) pe_int) (pa_cons (pv 2) (pa_cons (pv 2) pa_nil)))) (pa_cons (pe_tup (pa_cons (pv 2) (pa_cons (pe_op op_add pe_int (pe_call D__law_draw.ok (hr.mono (by first | decide | omega)) (by rfl) D__law_draw.m D__law_draw.kp D__law_draw.b .nil pass0 (pa_cons (pv 1) (pa_cons (pv 2) pa_nil)))) (pa_cons (pv 2) pa_nil)))) (pa_cons (pe_tup (pa_cons (pv 2) (pa_cons (pe_op op_add (pe_op op_add (pv 3) (pv 5)) (pv 4)) (pa_cons (pv 2) pa_nil)))) (pa_cons (pe_tup (pa_cons (pv 2) (pa_cons (pe_op op_sub (pe_op op_add (pe_op op_add (pv 3) (pv 5)) (pv 4)) pe_int) (pa_cons (pv 2) pa_nil)))) (pa_cons (pe_tup (pa_cons (pe_op op_fdivN (pe_op op_add (pv 2) (pv 3)) pe_int) (pa_cons (pe_op op_fdivN (pe_op op_add (pv 2) (pv 3)) pe_int) (pa_cons (pv 2) pa_nil)))) pa_nil)))))))))
  (pss_cons (ps_for PassesOwn.never rfl (pi_list (pv 10)) (pg_name (i := 11) sc_law.nd rfl (by first | exact Or.inl rfl | exact Or.inr rfl))
  (pss_one (ps_if (PW.pt (pw_and (pt_cmpR op_ge (pe_callB (cr_minT rfl (room65 hr)) (by rfl) T.min (by decide +kernel) (pa_cons (pv 11) pa_nil)) pe_int (nomark _)) (pw_and1 (pt_cmpR op_le (pe_callB (cr_maxT rfl (room65 hr)) (by rfl) T.max (by decide +kernel) (pa_cons (pv 11) pa_nil)) (pv 2) (nomark _)))))
  (pss_one (ps_if (pt_cut (PW.pt (pw_or (pt_not (pt_val (pe_call D__law_asked_safety.ok (hr.mono (by first | decide | omega)) (by rfl) D__law_asked_safety.m D__law_asked_safety.kp D__law_asked_safety.b .nil pass0 (pa_cons (pv 1) (pa_cons (pv 2) (pa_cons (pv 3) (pa_cons (pv 4) (pa_cons (pv 5) (pa_cons (pv 6) (pa_cons (pv 11) pa_nil)))))))))) (pw_or1 (pt_not (pt_val (pe_call D__law_asked_borne.ok (hr.mono (by first | decide | omega)) (by rfl) D__law_asked_borne.m D__law_asked_borne.kp D__law_asked_borne.b .nil pass0 (pa_cons (pv 2) (pa_cons (pv 3) (pa_cons (pv 4) (pa_cons (pv 5) (pa_cons (pv 6) (pa_cons (pv 11) pa_nil)))))))))))))
  (pss_one (ps_ret pe_bl))
  pss_nil))
  pss_nil)))
  (pss_one (ps_ret (pe_call D__law_asked_least.ok (hr.mono (by first | decide | omega)) (by rfl) D__law_asked_least.m D__law_asked_least.kp D__law_asked_least.b .nil pass0 (pa_cons (pv 1) (pa_cons (pv 2) (pa_cons (pv 3) (pa_cons (pv 4) (pa_cons (pv 5) pa_nil)))))))))))))))))), ?_⟩
    refine ⟨_, rfl, a, ns, rfl, hS, hl, fun w q H1 _ _ _ hh1 => ?_⟩
    -- k
    refine ⟨_, rfl, _, rfl, w, q, 12, rfl, hh1, by decide, by decide, fun r1 H2 r10 r11 _ hh2 => ⟨_, _, rfl, rfl, _, rfl, w, q, 6, rfl, hh2, by decide, by decide, fun r2 H3 r20 r21 _ hh3 => ⟨_, _, rfl, rfl, (by show 3 ≤ sizeLine; decide), fun s1 hs1 => ?_⟩⟩⟩
    obtain ⟨n1, n2⟩ := hh3.ne hs1
    refine ⟨w, q, s1, _, rfl, hh3.upd n1 n2, upd_same, n1, n2, (by show 0 < 3; decide), (by show 3 < 1000000; decide), fun kv H4 hkv _ hh4 => ?_⟩
    obtain ⟨k, rfl, hk⟩ : ∃ k : Int, kv = .int k ∧ (1 ≤ k ∧ k ≤ 12) := by
      simp only [List.mem_cons, List.not_mem_nil, or_false] at hkv
      rcases hkv with rfl | rfl | rfl
      · exact ⟨_, rfl, by decide, by decide⟩
      · exact ⟨_, rfl, by omega, by omega⟩
      · exact ⟨_, rfl, by omega, by omega⟩
    clear hkv hs1
    -- f, m
    refine ⟨_, rfl, _, rfl, _, rfl, _, rfl, _, _, rfl, rfl, w, q, k + 1, rfl, hh4, by omega, by omega, fun r3 H5 r30 r31 _ hh5 => ⟨(by show 6 ≤ sizeLine; decide), fun s2 hs2 => ?_⟩⟩
    obtain ⟨n3, n4⟩ := hh5.ne hs2
    refine ⟨w, q, s2, _, rfl, hh5.upd n3 n4, upd_same, n3, n4, (by show 0 < 6; decide), (by show 6 < 1000000; decide), fun fv H6 hfv _ hh6 => ?_⟩
    obtain ⟨f0, rfl, hf0⟩ : ∃ f : Int, fv = .int f ∧ 0 ≤ f := by
      simp only [List.mem_cons, List.not_mem_nil, or_false] at hfv
      rcases hfv with rfl | rfl | rfl | rfl | rfl | rfl
      · exact ⟨_, rfl, by decide⟩
      · exact ⟨_, rfl, by decide⟩
      · exact ⟨_, rfl, by decide⟩
      · exact ⟨_, rfl, by decide⟩
      · exact ⟨_, rfl, by decide⟩
      · exact ⟨_, rfl, r30⟩
    clear hfv hs2
    refine ⟨_, _, rfl, ?_⟩
    have hfb : 0 ≤ mn k f0 ∧ mn k f0 ≤ k := by have := mn_cases k f0; omega
    have h6 := mn_cases 6 k
    refine ⟨_, rfl, _, rfl, _, _, rfl, w, q, mn 6 k, rfl, hh6, by omega, by omega, fun r4 H7 r40 r41 _ hh7 => ⟨_, _, rfl, rfl, _, _, rfl, ?_⟩⟩
    have hm : 1 ≤ 1 + r4 ∧ 1 + r4 ≤ 6 ∧ 1 + r4 ≤ k := by omega
    -- spread, d
    refine ⟨_, rfl, _, rfl, _, _, rfl, _, rfl, _, rfl, _, _, rfl, rfl, w, q, k + 1, rfl, hh7, by omega, by omega, fun r5 H8 r50 r51 _ hh8 => ⟨(by show 4 ≤ sizeLine; decide), fun s3 hs3 => ?_⟩⟩
    obtain ⟨n5, n6⟩ := hh8.ne hs3
    refine ⟨w, q, s3, _, rfl, hh8.upd n5 n6, upd_same, n5, n6, (by show 0 < 4; decide), (by show 4 < 1000000; decide), fun sv H9 hsv _ hh9 => ?_⟩
    obtain ⟨sp, rfl, hsp⟩ : ∃ f : Int, sv = .int f ∧ (0 ≤ f ∧ f ≤ 12) := by
      simp only [List.mem_cons, List.not_mem_nil, or_false] at hsv
      have h2 := mn_cases 2 k
      rcases hsv with rfl | rfl | rfl | rfl
      · exact ⟨_, rfl, by decide, by decide⟩
      · exact ⟨_, rfl, by decide, by decide⟩
      · exact ⟨mn 2 k, rfl, by omega, by omega⟩
      · exact ⟨_, rfl, by omega, by omega⟩
    clear hsv hs3
    refine ⟨_, rfl, _, rfl, w, q, 20, rfl, hh9, by decide, by decide, fun r6 H10 r60 r61 _ hh10 => ⟨_, rfl, w, q, 200, rfl, hh10, by decide, by decide, fun r7 H11 r70 r71 _ hh11 => ⟨(by show 4 ≤ sizeLine; decide), fun s4 hs4 => ?_⟩⟩⟩
    obtain ⟨n7, n8⟩ := hh11.ne hs4
    refine ⟨w, q, s4, _, rfl, hh11.upd n7 n8, upd_same, n7, n8, (by show 0 < 4; decide), (by show 4 < 1000000; decide), fun dv H12 hdv _ hh12 => ?_⟩
    obtain ⟨d0, rfl, hd0⟩ : ∃ f : Int, dv = .int f ∧ (0 ≤ f ∧ f ≤ 199) := by
      simp only [List.mem_cons, List.not_mem_nil, or_false] at hdv
      rcases hdv with rfl | rfl | rfl | rfl
      · exact ⟨_, rfl, by decide, by decide⟩
      · exact ⟨_, rfl, by decide, by decide⟩
      · exact ⟨_, rfl, by omega, by omega⟩
      · exact ⟨_, rfl, by omega, by omega⟩
    clear hdv hs4
    refine ⟨_, _, rfl, rfl, _, _, rfl, ?_⟩
    -- triple
    refine ⟨fun v H' => ∃ (tr : Addr) (x y z : Int), v = .ref tr ∧ SqT K H' tr [.int x, .int y, .int z] ∧ HeapAt H' w q ∧ (1 ≤ x ∧ x ≤ k) ∧ (1 ≤ y ∧ y ≤ k) ∧ (1 ≤ z ∧ z ≤ k), ?_, ?_⟩
    · refine ⟨_, rfl, _, rfl, w, q, k, rfl, hh12, by omega, by omega, fun r8 H13 r80 r81 _ hh13 => ⟨_, _, rfl, rfl, _, rfl, _, rfl, w, q, k, rfl, hh13, by omega, by omega, fun r9 H14 r90 r91 _ hh14 => ⟨_, _, rfl, rfl, _, rfl, _, rfl, w, q, k, rfl, hh14, by omega, by omega, fun r10 H15 a0 a1 _ hh15 => ⟨_, _, rfl, rfl, (by show 3 ≤ sizeLine; decide), fun tr htr => ?_⟩⟩⟩⟩
      exact ⟨tr, 1 + r8, 1 + r9, 1 + r10, rfl, SqT.of upd_same, hh15.same (same_new htr), ⟨by omega, by omega⟩, ⟨by omega, by omega⟩, ⟨by omega, by omega⟩⟩
    rintro v H16 ⟨tr, x, y, z, rfl, hT, hh16, hx, hy, hz⟩
    -- edge, both
    refine ⟨_, rfl, _, rfl, _, _, rfl, rfl, _, rfl, _, _, rfl, rfl, _, _, rfl, rfl, ⟨by decide, by decide⟩, _, rfl, _, rfl, _, _, rfl, rfl, _, rfl, _, _, rfl, rfl, _, _, rfl, ?_⟩
    -- edges
    refine ⟨fun v H' => ∃ E : Addr, v = .ref E ∧ EdgAt K H' w q E 4 ∧ SqT K H' tr [.int x, .int y, .int z] ∧ HeapAt H' w q, ?_, ?_⟩
    · refine ⟨_, rfl, _, rfl, _, rfl, tr, _, 1, _, rfl, rfl, hT, atI_nat (j := 1) rfl, _, rfl, tr, _, 2, _, rfl, rfl, hT, atI_nat (j := 2) rfl, (by show 3 ≤ sizeLine; decide), fun t1 ht1 => ?_⟩
      refine ⟨_, rfl, _, _, rfl, rfl, _, rfl, tr, _, 1, _, rfl, rfl, (seqT (same_new ht1) hT), atI_nat (j := 1) rfl, _, rfl, _, rfl, tr, _, 1, _, rfl, rfl, (seqT (same_new ht1) hT), atI_nat (j := 1) rfl, _, _, rfl, rfl, (by show 3 ≤ sizeLine; decide), fun t2 ht2 => ?_⟩
      refine ⟨_, rfl, _, _, rfl, rfl, _, rfl, tr, _, 1, _, rfl, rfl, (seqT (same_new ht2) (seqT (same_new ht1) hT)), atI_nat (j := 1) rfl, _, rfl, _, _, rfl, rfl, _, rfl, tr, _, 1, _, rfl, rfl, (seqT (same_new ht2) (seqT (same_new ht1) hT)), atI_nat (j := 1) rfl, _, _, rfl, rfl, (by show 3 ≤ sizeLine; decide), fun t3 ht3 => ?_⟩
      refine ⟨(by show 4 ≤ sizeLine; decide), fun E hE => ?_⟩
      have hT4 := seqT (same_new (o := .lst [.ref tr, .ref t1, .ref t2, .ref t3]) hE) (seqT (same_new ht3) (seqT (same_new ht2) (seqT (same_new ht1) hT)))
      obtain ⟨e1, e2⟩ := (((hh16.same (same_new ht1)).same (same_new ht2)).same (same_new ht3)).ne hE
      refine ⟨E, rfl, ⟨_, [(x, y, z), ((k + sp + mn k f0).fdiv 2, y, z), ((k + sp + mn k f0).fdiv 2 + 1, y, (k + sp + mn k f0) - y), ((k + sp + mn k f0).fdiv 2 + 1, y, (k + sp + mn k f0) + 1 - y)], upd_same, .cons ?_ (.cons ?_ (.cons ?_ (.cons ?_ .nil))), rfl, e1, e2⟩, hT4, (((hh16.same (same_new ht1)).same (same_new ht2)).same (same_new ht3)).same (same_new hE)⟩
      · exact .tup hT4 (.cons (.int _) (.cons (.int _) (.cons (.int _) .nil)))
      · exact (((tri_new _ _ _).mono (same_new ht2)).mono (same_new ht3)).mono (same_new hE)
      · exact ((tri_new _ _ _).mono (same_new ht3)).mono (same_new hE)
      · exact (tri_new _ _ _).mono (same_new hE)
    rintro v H17 ⟨E1, rfl, ⟨us1, L1, hE1, hL1, hl1, e11, e12⟩, hT17, hh17⟩
    refine ⟨fun v H' => ∃ E : Addr, v = .ref E ∧ EdgAt K H' w q E 7 ∧ HeapAt H' w q, ?_, ?_⟩
    · refine ⟨_, rfl, _, rfl, _, _, rfl, rfl, _, rfl, tr, _, 1, _, rfl, rfl, hT17, atI_nat (j := 1) rfl, _, rfl, _, rfl, _, _, rfl, rfl, _, rfl, tr, _, 1, _, rfl, rfl, hT17, atI_nat (j := 1) rfl, _, _, rfl, rfl, (by show 3 ≤ sizeLine; decide), fun t1 ht1 => ?_⟩
      refine ⟨_, rfl, _, _, rfl, rfl, _, rfl, tr, _, 1, _, rfl, rfl, (seqT (same_new ht1) hT17), atI_nat (j := 1) rfl, _, rfl, _, rfl, _, _, rfl, rfl, _, _, rfl, rfl, _, rfl, tr, _, 1, _, rfl, rfl, (seqT (same_new ht1) hT17), atI_nat (j := 1) rfl, _, _, rfl, rfl, (by show 3 ≤ sizeLine; decide), fun t2 ht2 => ?_⟩
      refine ⟨_, rfl, _, _, rfl, rfl, _, rfl, _, rfl, _, _, rfl, rfl, (by show 3 ≤ sizeLine; decide), fun t3 ht3 => ?_⟩
      refine ⟨(by show 3 ≤ sizeLine; decide), fun e hE => ?_⟩
      have s4 := ((same_new ht1).trans (same_new ht2)).trans ((same_new ht3).trans (same_new (o := .lst [.ref t1, .ref t2, .ref t3]) hE))
      refine ⟨E1, e, us1, _, rfl, rfl, s4 _ _ hE1, upd_same, by rw [hl1]; show 7 ≤ sizeLine; decide, fun E2 hE2 => ?_⟩
      have s5 := s4.trans (same_new (o := .lst (us1 ++ [.ref t1, .ref t2, .ref t3])) hE2)
      have hh20 := hh17.same s4
      obtain ⟨e1, e2⟩ := hh20.ne hE2
      refine ⟨E2, rfl, ⟨_, L1 ++ [((k + sp + mn k f0).fdiv 2 + 1, y, (k + sp + mn k f0) + (1 + r4) - y), ((k + sp + mn k f0).fdiv 2 + 1, y, (k + sp + mn k f0) + (1 + r4) - 1 - y), ((k + sp + mn k f0).fdiv 2 + 1, mn k f0 + (1 + r4), 1)], upd_same, Ers.app (hL1.mono fun y a h => h.mono s5) (.cons ?_ (.cons ?_ (.cons ?_ .nil))), by rw [List.length_append, hl1]; rfl, e1, e2⟩, hh17.same s5⟩
      · exact ((((tri_new _ _ _).mono (same_new ht2)).mono (same_new ht3)).mono (same_new hE)).mono (same_new hE2)
      · exact (((tri_new _ _ _).mono (same_new ht3)).mono (same_new hE)).mono (same_new hE2)
      · exact ((tri_new _ _ _).mono (same_new hE)).mono (same_new hE2)
    clear hT hh16 hE1 hL1 hl1 e11 e12 hT17 hh17
    rintro v H18 ⟨E2, rfl, ⟨us2, L2', hE2, hL2, hl2, e21, e22⟩, hh18⟩
    refine ⟨fun v H' => ∃ E : Addr, v = .ref E ∧ EdgAt K H' w q E 12 ∧ HeapAt H' w q, ?_, ?_⟩
    · refine ⟨_, rfl, _, rfl, _, _, rfl, rfl, _, rfl, _, rfl, (by show 3 ≤ sizeLine; decide), fun t1 ht1 => ?_⟩
      refine ⟨_, rfl, _, rfl, _, rfl, w, q, k, rfl, hh18.same (same_new ht1), by omega, by omega, fun r8 H20 r80 r81 fr20 hh20 => ⟨_, _, rfl, rfl, _, rfl, (by show 3 ≤ sizeLine; decide), fun t2 ht2 => ?_⟩⟩
      have hE20 := fr20 _ _ e21 e22 (same_new ht1 _ _ hE2)
      have hL20 := ers_frm fr20 (hh18.same (same_new ht1)) (hL2.mono fun y a h => h.mono (same_new ht1))
      have hT1 : ErT K H20 (.ref t1) ((k + sp + mn k f0).fdiv 2 + 1, k, k) := by
        obtain ⟨c, e, hc⟩ := tri_at (ErT.mono (Same.refl _) (tri_new (K := K) (H := H18) (p := t1) ((k + sp + mn k f0).fdiv 2 + 1) k k))
        cases e
        exact .tup (seqT_frm fr20 (hh18.same (same_new ht1)) hc) (.cons (.int _) (.cons (.int _) (.cons (.int _) .nil)))
      clear fr20 ht1 hE2 hL2
      refine ⟨_, rfl, _, rfl, _, rfl, _, _, rfl, rfl, _, rfl, _, _, rfl, rfl, _, rfl, (by show 3 ≤ sizeLine; decide), fun t3 ht3 => ?_⟩
      refine ⟨_, rfl, _, rfl, _, rfl, _, _, rfl, rfl, _, rfl, _, _, rfl, rfl, _, _, rfl, rfl, _, rfl, (by show 3 ≤ sizeLine; decide), fun t4 ht4 => ?_⟩
      refine ⟨_, rfl, _, rfl, _, _, rfl, rfl, _, _, rfl, rfl, ⟨by decide, by decide⟩, _, rfl, _, rfl, _, _, rfl, rfl, _, _, rfl, rfl, ⟨by decide, by decide⟩, _, rfl, (by show 3 ≤ sizeLine; decide), fun t5 ht5 => ?_⟩
      refine ⟨(by show 5 ≤ sizeLine; decide), fun e hE => ?_⟩
      have s4 := ((same_new ht2).trans (same_new ht3)).trans (((same_new ht4).trans (same_new ht5)).trans (same_new (o := .lst [.ref t1, .ref t2, .ref t3, .ref t4, .ref t5]) hE))
      refine ⟨E2, e, us2, _, rfl, rfl, s4 _ _ hE20, upd_same, by rw [hl2]; show 12 ≤ sizeLine; decide, fun E3 hE3 => ?_⟩
      have s5 := s4.trans (same_new (o := .lst (us2 ++ [.ref t1, .ref t2, .ref t3, .ref t4, .ref t5])) hE3)
      obtain ⟨e1, e2⟩ := (hh20.same s4).ne hE3
      refine ⟨E3, rfl, ⟨_, L2' ++ [((k + sp + mn k f0).fdiv 2 + 1, k, k), (k, 1 + r8, k), (k, mn k f0 + sp + (1 + r4), k), (k, mn k f0 + sp + (1 + r4) - 1, k), ((k + mn k f0).fdiv 2, (k + mn k f0).fdiv 2, k)], upd_same, Ers.app (hL20.mono fun y a h => h.mono s5) (.cons (hT1.mono s5) (.cons ?_ (.cons ?_ (.cons ?_ (.cons ?_ .nil))))), by rw [List.length_append, hl2]; rfl, e1, e2⟩, hh20.same s5⟩
      · exact (((((tri_new _ _ _).mono (same_new ht3)).mono (same_new ht4)).mono (same_new ht5)).mono (same_new hE)).mono (same_new hE3)
      · exact ((((tri_new _ _ _).mono (same_new ht4)).mono (same_new ht5)).mono (same_new hE)).mono (same_new hE3)
      · exact (((tri_new _ _ _).mono (same_new ht5)).mono (same_new hE)).mono (same_new hE3)
      · exact ((tri_new _ _ _).mono (same_new hE)).mono (same_new hE3)
    rintro v H19 ⟨E3, rfl, ⟨us3, L3, hE3, hL3, hl3, e31, e32⟩, hh19⟩
    clear hE2 hL2 hl2 e21 e22 hh18
    refine ⟨_, rfl, E3, rfl, ⟨_, SqL.of hE3⟩, for_list (xs := us3) (fun i σ H' => ∃ x11, σ = [some (.ref a), some (.ref w), some (.int k), some (.int (mn k f0)), some (.int (1 + r4)), some (.int sp), some (.int (1 + d0)), some (.ref tr), some (.int ((k + sp + mn k f0).fdiv 2)), some (.int (k + sp + mn k f0)), some (.ref E3), x11] ∧ HeapAt H' w q ∧ H' E3 = some (.lst us3) ∧ Ers (ErT K) H' us3 L3)
      ⟨_, rfl, hh19, hE3, hL3⟩ (fun i σ H' _ ⟨_, _, _, h, _⟩ => SqL.of h) ?_ ?_⟩
    · rintro i y σ H20 hy ⟨x11, rfl, hh20, hE20, hL20⟩
      obtain ⟨u, hu, hd⟩ := hL20.get hy
      obtain ⟨c, rfl, hc⟩ := tri_at hd
      obtain ⟨w1, w2, g⟩ := u
      refine ⟨_, rfl, c, w1, [w2, g], rfl, hc, _, _, rfl, rfl, _, rfl, and2 (c2 := [w2, g].foldl max w1 ≤ k) (fun _ => ⟨_, rfl, hh20, hE20, hL20⟩) (fun h1 hB => ?_)⟩
      refine ⟨_, rfl, c, w1, [w2, g], rfl, hc, _, rfl, _, _, rfl, rfl, _, rfl, ite_dec (fun h2 => ?_) (fun h2 => hB fun h => h2 h.2)⟩
      have h1' : min (min w1 w2) g ≥ 1 := h1
      have h2' : max (max w1 w2) g ≤ k := h2
      have ok : Ok k (mn k f0) (1 + d0) (1 + r4) w1 w2 g sp := ⟨hk.1, hk.2, hfb.1, hfb.2, by omega, by omega, by omega, by omega, by omega, by omega, by omega, by omega, by omega, by omega, hsp.1, hsp.2⟩
      refine ⟨fun b H' => b = false ∧ HeapAt H' w q ∧ Frm w q H20 H', ?_, ?_⟩
      · refine ⟨_, rfl, _, rfl, _, rfl, _, rfl, _, rfl, _, rfl, _, rfl, w, q, k, mn k f0, 1 + d0, 1 + r4, w1, w2, g, sp, c, rfl, hh20, hc, ok, hm.2.2, fun H21 fr21 hh21 => ⟨_, rfl, iteF ?_⟩⟩
        refine ⟨_, rfl, _, rfl, _, rfl, _, rfl, _, rfl, _, rfl, k, mn k f0, 1 + d0, 1 + r4, w1, w2, g, sp, c, rfl, seqT_frm fr21 hh20 hc, ok, hm.2.2, fun H22 s22 => ⟨_, rfl, rfl, hh21.same s22, fr21.trans (Frm.same s22)⟩⟩
      rintro b H23 ⟨rfl, hh23, fr23⟩
      exact iteF ⟨_, rfl, hh23, fr23 _ _ e31 e32 hE20, ers_frm fr23 hh20 hL20⟩
    · rintro σ H20 ⟨x11, rfl, hh20, hE20, hL20⟩
      exact ⟨_, rfl, _, rfl, _, rfl, _, rfl, _, rfl, w, q, k, mn k f0, 1 + r4, sp, rfl, hh20, hk, hfb, ⟨hm.1, by omega⟩, hsp, fin⟩
end
end K26

namespace K26
open PySem PySem.Spec PyProof.Rows L2 Hl
theorem all_mk {l : PySem.W.OpenLaw} {w : World} {K : PySem.W.Frag} {h : Heap} {mg : Str → Option Value} {fa : Addr} (X : K.In h) (G : h.Ns mainGlobals mg) (hfa : mg "law" = some (.ref fa))
    {f_0 f_1 f_2 f_3 f_4 f_5 f_6 f_7 f_8 f_9 f_10 f_11 f_12 f_13 f_14 f_15 f_16 f_17 f_18 f_19 f_20 f_21 f_22 f_23 f_24 f_25 f_26 f_27 f_28 f_29 f_30 f_31 f_32 f_33 f_34 f_35 f_36 : Addr} {C_Numbers : Addr} {t_MOST_COPIES t_MOST_LAG t_MOST_PIECES t_MOST_MADE : Tok}
    {od_0 an_0 : Option Addr} {sl_0 : Array (Option Value)} {oc_0 kV_0 dc_0 pm_0 cd_0 ct_0 : Value}
    {od_1 an_1 : Option Addr} {sl_1 : Array (Option Value)} {oc_1 kV_1 dc_1 pm_1 cd_1 ct_1 : Value}
    {tT_1 : Addr} {ocT_1 : Value} {odT_1 : Option Addr} {slT_1 : Array (Option Value)} {nT_1 : Nat}
    {od_2 an_2 : Option Addr} {sl_2 : Array (Option Value)} {oc_2 kV_2 dc_2 pm_2 cd_2 ct_2 : Value}
    {od_3 an_3 : Option Addr} {sl_3 : Array (Option Value)} {oc_3 kV_3 dc_3 pm_3 cd_3 ct_3 : Value}
    {od_4 an_4 : Option Addr} {sl_4 : Array (Option Value)} {oc_4 kV_4 dc_4 pm_4 cd_4 ct_4 : Value}
    {od_5 an_5 : Option Addr} {sl_5 : Array (Option Value)} {oc_5 kV_5 dc_5 pm_5 cd_5 ct_5 : Value}
    {od_6 an_6 : Option Addr} {sl_6 : Array (Option Value)} {oc_6 kV_6 dc_6 pm_6 cd_6 ct_6 : Value}
    {od_7 an_7 : Option Addr} {sl_7 : Array (Option Value)} {oc_7 kV_7 dc_7 pm_7 cd_7 ct_7 : Value}
    {od_8 an_8 : Option Addr} {sl_8 : Array (Option Value)} {oc_8 kV_8 dc_8 pm_8 cd_8 ct_8 : Value}
    {od_9 an_9 : Option Addr} {sl_9 : Array (Option Value)} {oc_9 kV_9 dc_9 pm_9 cd_9 ct_9 : Value}
    {od_10 an_10 : Option Addr} {sl_10 : Array (Option Value)} {oc_10 kV_10 dc_10 pm_10 cd_10 ct_10 : Value}
    {od_11 an_11 : Option Addr} {sl_11 : Array (Option Value)} {oc_11 kV_11 dc_11 pm_11 cd_11 ct_11 : Value}
    {od_12 an_12 : Option Addr} {sl_12 : Array (Option Value)} {oc_12 kV_12 dc_12 pm_12 cd_12 ct_12 : Value}
    {od_13 an_13 : Option Addr} {sl_13 : Array (Option Value)} {oc_13 kV_13 dc_13 pm_13 cd_13 ct_13 : Value}
    {od_14 an_14 : Option Addr} {sl_14 : Array (Option Value)} {oc_14 kV_14 dc_14 pm_14 cd_14 ct_14 : Value}
    {od_15 an_15 : Option Addr} {sl_15 : Array (Option Value)} {oc_15 kV_15 dc_15 pm_15 cd_15 ct_15 : Value}
    {od_16 an_16 : Option Addr} {sl_16 : Array (Option Value)} {oc_16 kV_16 dc_16 pm_16 cd_16 ct_16 : Value}
    {od_17 an_17 : Option Addr} {sl_17 : Array (Option Value)} {oc_17 kV_17 dc_17 pm_17 cd_17 ct_17 : Value}
    {od_18 an_18 : Option Addr} {sl_18 : Array (Option Value)} {oc_18 kV_18 dc_18 pm_18 cd_18 ct_18 : Value}
    {od_19 an_19 : Option Addr} {sl_19 : Array (Option Value)} {oc_19 kV_19 dc_19 pm_19 cd_19 ct_19 : Value}
    {od_20 an_20 : Option Addr} {sl_20 : Array (Option Value)} {oc_20 kV_20 dc_20 pm_20 cd_20 ct_20 : Value}
    {od_21 an_21 : Option Addr} {sl_21 : Array (Option Value)} {oc_21 kV_21 dc_21 pm_21 cd_21 ct_21 : Value}
    {od_22 an_22 : Option Addr} {sl_22 : Array (Option Value)} {oc_22 kV_22 dc_22 pm_22 cd_22 ct_22 : Value}
    {od_23 an_23 : Option Addr} {sl_23 : Array (Option Value)} {oc_23 kV_23 dc_23 pm_23 cd_23 ct_23 : Value}
    {od_24 an_24 : Option Addr} {sl_24 : Array (Option Value)} {oc_24 kV_24 dc_24 pm_24 cd_24 ct_24 : Value}
    {od_25 an_25 : Option Addr} {sl_25 : Array (Option Value)} {oc_25 kV_25 dc_25 pm_25 cd_25 ct_25 : Value}
    {od_26 an_26 : Option Addr} {sl_26 : Array (Option Value)} {oc_26 kV_26 dc_26 pm_26 cd_26 ct_26 : Value}
    {od_27 an_27 : Option Addr} {sl_27 : Array (Option Value)} {oc_27 kV_27 dc_27 pm_27 cd_27 ct_27 : Value}
    {od_28 an_28 : Option Addr} {sl_28 : Array (Option Value)} {oc_28 kV_28 dc_28 pm_28 cd_28 ct_28 : Value}
    {od_29 an_29 : Option Addr} {sl_29 : Array (Option Value)} {oc_29 kV_29 dc_29 pm_29 cd_29 ct_29 : Value}
    {od_30 an_30 : Option Addr} {sl_30 : Array (Option Value)} {oc_30 kV_30 dc_30 pm_30 cd_30 ct_30 : Value}
    {od_31 an_31 : Option Addr} {sl_31 : Array (Option Value)} {oc_31 kV_31 dc_31 pm_31 cd_31 ct_31 : Value}
    {od_32 an_32 : Option Addr} {sl_32 : Array (Option Value)} {oc_32 kV_32 dc_32 pm_32 cd_32 ct_32 : Value}
    {od_33 an_33 : Option Addr} {sl_33 : Array (Option Value)} {oc_33 kV_33 dc_33 pm_33 cd_33 ct_33 : Value}
    {od_34 an_34 : Option Addr} {sl_34 : Array (Option Value)} {oc_34 kV_34 dc_34 pm_34 cd_34 ct_34 : Value}
    {od_35 an_35 : Option Addr} {sl_35 : Array (Option Value)} {oc_35 kV_35 dc_35 pm_35 cd_35 ct_35 : Value}
    {od_36 an_36 : Option Addr} {sl_36 : Array (Option Value)} {oc_36 kV_36 dc_36 pm_36 cd_36 ct_36 : Value}
    (z_isinstance : PySem.W.nsIn K mainGlobals "isinstance" = some none)
    (z_int : PySem.W.nsIn K mainGlobals "int" = some none)
    (z_bool : PySem.W.nsIn K mainGlobals "bool" = some none)
    (z_str : PySem.W.nsIn K mainGlobals "str" = some none)
    (z_tuple : PySem.W.nsIn K mainGlobals "tuple" = some none)
    (z_range : PySem.W.nsIn K mainGlobals "range" = some none)
    (z_zip : PySem.W.nsIn K mainGlobals "zip" = some none)
    (z_enumerate : PySem.W.nsIn K mainGlobals "enumerate" = some none)
    (z_len : PySem.W.nsIn K mainGlobals "len" = some none)
    (z_abs : PySem.W.nsIn K mainGlobals "abs" = some none)
    (z_min : PySem.W.nsIn K mainGlobals "min" = some none)
    (z_max : PySem.W.nsIn K mainGlobals "max" = some none)
    (z_sum : PySem.W.nsIn K mainGlobals "sum" = some none)
    (z_all : PySem.W.nsIn K mainGlobals "all" = some none)
    (z_any : PySem.W.nsIn K mainGlobals "any" = some none)
    (g_MOST_COPIES : PySem.W.nsIn K mainGlobals "MOST_COPIES" = some (some (.int 12 t_MOST_COPIES)))
    (g_MOST_LAG : PySem.W.nsIn K mainGlobals "MOST_LAG" = some (some (.int 200 t_MOST_LAG)))
    (g_MOST_PIECES : PySem.W.nsIn K mainGlobals "MOST_PIECES" = some (some (.int 6 t_MOST_PIECES)))
    (g_MOST_MADE : PySem.W.nsIn K mainGlobals "MOST_MADE" = some (some (.int 6 t_MOST_MADE)))
    (aC : PySem.W.nsIn K mainGlobals "Numbers" = some (some (.ref C_Numbers)))
    (pg : PySem.W.plainGet K C_Numbers Str.empty = true)
    (hd : PySem.W.hasDictIn K C_Numbers = true)
    (po : PySem.W.plainOver K C_Numbers = true)
    (sa : PySem.W.findIn K (.ref C_Numbers) "__setattr__" = some (some (.builtin "object.__setattr__")))
    (mk : PySem.W.makesIn K C_Numbers = true)
    (kc : PySem.W.keepIn K (.ref C_Numbers) = true)
    (n_k : PySem.W.findIn K (.ref C_Numbers) "k" = some none)
    (n_f : PySem.W.findIn K (.ref C_Numbers) "f" = some none)
    (n_d : PySem.W.findIn K (.ref C_Numbers) "d" = some none)
    (n_m : PySem.W.findIn K (.ref C_Numbers) "m" = some none)
    (n_w1 : PySem.W.findIn K (.ref C_Numbers) "w1" = some none)
    (n_w2 : PySem.W.findIn K (.ref C_Numbers) "w2" = some none)
    (n_g : PySem.W.findIn K (.ref C_Numbers) "g" = some none)
    (i1 : PySem.W.findIn K (.ref C_Numbers) "__class__" = some (some (.builtin "object.__class__")))
    (i2 : PySem.W.specialIn K (.builtin "object.__class__") "__get__" = some (some (.builtin "getset_descriptor.__get__")))
    (i3 : PySem.W.takesIn K (.builtin "object.__class__") = some true)
    (i4 : PySem.W.mroIn K C_Numbers (.type "object") = some true)
    (a_0 : PySem.W.nsIn K mainGlobals "is_integer" = some (some (.ref f_0)))
    (l_0 : K.lookup f_0 = some ⟨oc_0, od_0, .func (PySem.W.fnOf "is_integer" "is_integer" (defArgs s_is_integer) (defBody s_is_integer) (defScope s_is_integer) .none kV_0 dc_0 pm_0 an_0 cd_0 ct_0), sl_0⟩)
    (c_0 : PySem.W.codeIn K cd_0 "is_integer" = true)
    (k_0 : PySem.W.keepIn K (.ref f_0) = true)
    (a_1 : PySem.W.nsIn K mainGlobals "is_number" = some (some (.ref f_1)))
    (l_1 : K.lookup f_1 = some ⟨oc_1, od_1, .func (PySem.W.fnOf "is_number" "is_number" (defArgs s_is_number) (defBody s_is_number) (defScope s_is_number) (.ref tT_1) kV_1 dc_1 pm_1 an_1 cd_1 ct_1), sl_1⟩)
    (c_1 : PySem.W.codeIn K cd_1 "is_number" = true)
    (k_1 : PySem.W.keepIn K (.ref f_1) = true)
    (t_1 : K.lookup tT_1 = some ⟨ocT_1, odT_1, .seq ([.none] : List Value).toArray nT_1, slT_1⟩)
    (a_2 : PySem.W.findIn K (.ref C_Numbers) "__init__" = some (some (.ref f_2)))
    (i_2 : PySem.W.isFn K (.ref f_2) = true)
    (l_2 : K.lookup f_2 = some ⟨oc_2, od_2, .func (PySem.W.fnOf "__init__" "Numbers.__init__" (defArgs s_Numbers_init) (defBody s_Numbers_init) (defScope s_Numbers_init) .none kV_2 dc_2 pm_2 an_2 cd_2 ct_2), sl_2⟩)
    (c_2 : PySem.W.codeIn K cd_2 "Numbers.__init__" = true)
    (k_2 : PySem.W.keepIn K (.ref f_2) = true)
    (a_3 : PySem.W.nsIn K mainGlobals "near_slack" = some (some (.ref f_3)))
    (l_3 : K.lookup f_3 = some ⟨oc_3, od_3, .func (PySem.W.fnOf "near_slack" "near_slack" (defArgs s_near_slack) (defBody s_near_slack) (defScope s_near_slack) .none kV_3 dc_3 pm_3 an_3 cd_3 ct_3), sl_3⟩)
    (c_3 : PySem.W.codeIn K cd_3 "near_slack" = true)
    (k_3 : PySem.W.keepIn K (.ref f_3) = true)
    (a_4 : PySem.W.nsIn K mainGlobals "far_slack" = some (some (.ref f_4)))
    (l_4 : K.lookup f_4 = some ⟨oc_4, od_4, .func (PySem.W.fnOf "far_slack" "far_slack" (defArgs s_far_slack) (defBody s_far_slack) (defScope s_far_slack) .none kV_4 dc_4 pm_4 an_4 cd_4 ct_4), sl_4⟩)
    (c_4 : PySem.W.codeIn K cd_4 "far_slack" = true)
    (k_4 : PySem.W.keepIn K (.ref f_4) = true)
    (a_5 : PySem.W.nsIn K mainGlobals "mend_slack" = some (some (.ref f_5)))
    (l_5 : K.lookup f_5 = some ⟨oc_5, od_5, .func (PySem.W.fnOf "mend_slack" "mend_slack" (defArgs s_mend_slack) (defBody s_mend_slack) (defScope s_mend_slack) .none kV_5 dc_5 pm_5 an_5 cd_5 ct_5), sl_5⟩)
    (c_5 : PySem.W.codeIn K cd_5 "mend_slack" = true)
    (k_5 : PySem.W.keepIn K (.ref f_5) = true)
    (a_6 : PySem.W.nsIn K mainGlobals "is_single" = some (some (.ref f_6)))
    (l_6 : K.lookup f_6 = some ⟨oc_6, od_6, .func (PySem.W.fnOf "is_single" "is_single" (defArgs s_is_single) (defBody s_is_single) (defScope s_is_single) .none kV_6 dc_6 pm_6 an_6 cd_6 ct_6), sl_6⟩)
    (c_6 : PySem.W.codeIn K cd_6 "is_single" = true)
    (k_6 : PySem.W.keepIn K (.ref f_6) = true)
    (a_7 : PySem.W.nsIn K mainGlobals "is_lasting" = some (some (.ref f_7)))
    (l_7 : K.lookup f_7 = some ⟨oc_7, od_7, .func (PySem.W.fnOf "is_lasting" "is_lasting" (defArgs s_is_lasting) (defBody s_is_lasting) (defScope s_is_lasting) .none kV_7 dc_7 pm_7 an_7 cd_7 ct_7), sl_7⟩)
    (c_7 : PySem.W.codeIn K cd_7 "is_lasting" = true)
    (k_7 : PySem.W.keepIn K (.ref f_7) = true)
    (a_8 : PySem.W.nsIn K mainGlobals "is_safe" = some (some (.ref f_8)))
    (l_8 : K.lookup f_8 = some ⟨oc_8, od_8, .func (PySem.W.fnOf "is_safe" "is_safe" (defArgs s_is_safe) (defBody s_is_safe) (defScope s_is_safe) .none kV_8 dc_8 pm_8 an_8 cd_8 ct_8), sl_8⟩)
    (c_8 : PySem.W.codeIn K cd_8 "is_safe" = true)
    (k_8 : PySem.W.keepIn K (.ref f_8) = true)
    (a_9 : PySem.W.nsIn K mainGlobals "times_over" = some (some (.ref f_9)))
    (l_9 : K.lookup f_9 = some ⟨oc_9, od_9, .func (PySem.W.fnOf "times_over" "times_over" (defArgs s_times_over) (defBody s_times_over) (defScope s_times_over) .none kV_9 dc_9 pm_9 an_9 cd_9 ct_9), sl_9⟩)
    (c_9 : PySem.W.codeIn K cd_9 "times_over" = true)
    (k_9 : PySem.W.keepIn K (.ref f_9) = true)
    (a_10 : PySem.W.nsIn K mainGlobals "must_leave" = some (some (.ref f_10)))
    (l_10 : K.lookup f_10 = some ⟨oc_10, od_10, .func (PySem.W.fnOf "must_leave" "must_leave" (defArgs s_must_leave) (defBody s_must_leave) (defScope s_must_leave) .none kV_10 dc_10 pm_10 an_10 cd_10 ct_10), sl_10⟩)
    (c_10 : PySem.W.codeIn K cd_10 "must_leave" = true)
    (k_10 : PySem.W.keepIn K (.ref f_10) = true)
    (a_11 : PySem.W.nsIn K mainGlobals "words_to_twice" = some (some (.ref f_11)))
    (l_11 : K.lookup f_11 = some ⟨oc_11, od_11, .func (PySem.W.fnOf "words_to_twice" "words_to_twice" (defArgs s_words_to_twice) (defBody s_words_to_twice) (defScope s_words_to_twice) .none kV_11 dc_11 pm_11 an_11 cd_11 ct_11), sl_11⟩)
    (c_11 : PySem.W.codeIn K cd_11 "words_to_twice" = true)
    (k_11 : PySem.W.keepIn K (.ref f_11) = true)
    (a_12 : PySem.W.nsIn K mainGlobals "keepers_beyond" = some (some (.ref f_12)))
    (l_12 : K.lookup f_12 = some ⟨oc_12, od_12, .func (PySem.W.fnOf "keepers_beyond" "keepers_beyond" (defArgs s_keepers_beyond) (defBody s_keepers_beyond) (defScope s_keepers_beyond) .none kV_12 dc_12 pm_12 an_12 cd_12 ct_12), sl_12⟩)
    (c_12 : PySem.W.codeIn K cd_12 "keepers_beyond" = true)
    (k_12 : PySem.W.keepIn K (.ref f_12) = true)
    (a_13 : PySem.W.nsIn K mainGlobals "words_to_gone" = some (some (.ref f_13)))
    (l_13 : K.lookup f_13 = some ⟨oc_13, od_13, .func (PySem.W.fnOf "words_to_gone" "words_to_gone" (defArgs s_words_to_gone) (defBody s_words_to_gone) (defScope s_words_to_gone) .none kV_13 dc_13 pm_13 an_13 cd_13 ct_13), sl_13⟩)
    (c_13 : PySem.W.codeIn K cd_13 "words_to_gone" = true)
    (k_13 : PySem.W.keepIn K (.ref f_13) = true)
    (a_14 : PySem.W.nsIn K mainGlobals "left_behind" = some (some (.ref f_14)))
    (l_14 : K.lookup f_14 = some ⟨oc_14, od_14, .func (PySem.W.fnOf "left_behind" "left_behind" (defArgs s_left_behind) (defBody s_left_behind) (defScope s_left_behind) .none kV_14 dc_14 pm_14 an_14 cd_14 ct_14), sl_14⟩)
    (c_14 : PySem.W.codeIn K cd_14 "left_behind" = true)
    (k_14 : PySem.W.keepIn K (.ref f_14) = true)
    (a_15 : PySem.W.nsIn K mainGlobals "is_safe_for" = some (some (.ref f_15)))
    (l_15 : K.lookup f_15 = some ⟨oc_15, od_15, .func (PySem.W.fnOf "is_safe_for" "is_safe_for" (defArgs s_is_safe_for) (defBody s_is_safe_for) (defScope s_is_safe_for) .none kV_15 dc_15 pm_15 an_15 cd_15 ct_15), sl_15⟩)
    (c_15 : PySem.W.codeIn K cd_15 "is_safe_for" = true)
    (k_15 : PySem.W.keepIn K (.ref f_15) = true)
    (a_16 : PySem.W.nsIn K mainGlobals "liars_borne" = some (some (.ref f_16)))
    (l_16 : K.lookup f_16 = some ⟨oc_16, od_16, .func (PySem.W.fnOf "liars_borne" "liars_borne" (defArgs s_liars_borne) (defBody s_liars_borne) (defScope s_liars_borne) .none kV_16 dc_16 pm_16 an_16 cd_16 ct_16), sl_16⟩)
    (c_16 : PySem.W.codeIn K cd_16 "liars_borne" = true)
    (k_16 : PySem.W.keepIn K (.ref f_16) = true)
    (a_17 : PySem.W.nsIn K mainGlobals "spread_borne" = some (some (.ref f_17)))
    (l_17 : K.lookup f_17 = some ⟨oc_17, od_17, .func (PySem.W.fnOf "spread_borne" "spread_borne" (defArgs s_spread_borne) (defBody s_spread_borne) (defScope s_spread_borne) .none kV_17 dc_17 pm_17 an_17 cd_17 ct_17), sl_17⟩)
    (c_17 : PySem.W.codeIn K cd_17 "spread_borne" = true)
    (k_17 : PySem.W.keepIn K (.ref f_17) = true)
    (a_18 : PySem.W.nsIn K mainGlobals "pieces_borne" = some (some (.ref f_18)))
    (l_18 : K.lookup f_18 = some ⟨oc_18, od_18, .func (PySem.W.fnOf "pieces_borne" "pieces_borne" (defArgs s_pieces_borne) (defBody s_pieces_borne) (defScope s_pieces_borne) .none kV_18 dc_18 pm_18 an_18 cd_18 ct_18), sl_18⟩)
    (c_18 : PySem.W.codeIn K cd_18 "pieces_borne" = true)
    (k_18 : PySem.W.keepIn K (.ref f_18) = true)
    (a_19 : PySem.W.nsIn K mainGlobals "least_triples" = some (some (.ref f_19)))
    (l_19 : K.lookup f_19 = some ⟨oc_19, od_19, .func (PySem.W.fnOf "least_triples" "least_triples" (defArgs s_least_triples) (defBody s_least_triples) (defScope s_least_triples) .none kV_19 dc_19 pm_19 an_19 cd_19 ct_19), sl_19⟩)
    (c_19 : PySem.W.codeIn K cd_19 "least_triples" = true)
    (k_19 : PySem.W.keepIn K (.ref f_19) = true)
    (a_20 : PySem.W.nsIn K mainGlobals "cheapest_triple" = some (some (.ref f_20)))
    (l_20 : K.lookup f_20 = some ⟨oc_20, od_20, .func (PySem.W.fnOf "cheapest_triple" "cheapest_triple" (defArgs s_cheapest_triple) (defBody s_cheapest_triple) (defScope s_cheapest_triple) .none kV_20 dc_20 pm_20 an_20 cd_20 ct_20), sl_20⟩)
    (c_20 : PySem.W.codeIn K cd_20 "cheapest_triple" = true)
    (k_20 : PySem.W.keepIn K (.ref f_20) = true)
    (a_21 : PySem.W.nsIn K mainGlobals "can_end" = some (some (.ref f_21)))
    (l_21 : K.lookup f_21 = some ⟨oc_21, od_21, .func (PySem.W.fnOf "can_end" "can_end" (defArgs s_can_end) (defBody s_can_end) (defScope s_can_end) .none kV_21 dc_21 pm_21 an_21 cd_21 ct_21), sl_21⟩)
    (c_21 : PySem.W.codeIn K cd_21 "can_end" = true)
    (k_21 : PySem.W.keepIn K (.ref f_21) = true)
    (a_22 : PySem.W.nsIn K mainGlobals "_law_heap" = some (some (.ref f_22)))
    (l_22 : K.lookup f_22 = some ⟨oc_22, od_22, .func (PySem.W.fnOf "_law_heap" "_law_heap" (defArgs s__law_heap) (defBody s__law_heap) (defScope s__law_heap) .none kV_22 dc_22 pm_22 an_22 cd_22 ct_22), sl_22⟩)
    (c_22 : PySem.W.codeIn K cd_22 "_law_heap" = true)
    (k_22 : PySem.W.keepIn K (.ref f_22) = true)
    (a_23 : PySem.W.nsIn K mainGlobals "_law_draw" = some (some (.ref f_23)))
    (l_23 : K.lookup f_23 = some ⟨oc_23, od_23, .func (PySem.W.fnOf "_law_draw" "_law_draw" (defArgs s__law_draw) (defBody s__law_draw) (defScope s__law_draw) .none kV_23 dc_23 pm_23 an_23 cd_23 ct_23), sl_23⟩)
    (c_23 : PySem.W.codeIn K cd_23 "_law_draw" = true)
    (k_23 : PySem.W.keepIn K (.ref f_23) = true)
    (a_24 : PySem.W.nsIn K mainGlobals "_law_pick" = some (some (.ref f_24)))
    (l_24 : K.lookup f_24 = some ⟨oc_24, od_24, .func (PySem.W.fnOf "_law_pick" "_law_pick" (defArgs s__law_pick) (defBody s__law_pick) (defScope s__law_pick) .none kV_24 dc_24 pm_24 an_24 cd_24 ct_24), sl_24⟩)
    (c_24 : PySem.W.codeIn K cd_24 "_law_pick" = true)
    (k_24 : PySem.W.keepIn K (.ref f_24) = true)
    (a_25 : PySem.W.nsIn K mainGlobals "_law_like" = some (some (.ref f_25)))
    (l_25 : K.lookup f_25 = some ⟨oc_25, od_25, .func (PySem.W.fnOf "_law_like" "_law_like" (defArgs s__law_like) (defBody s__law_like) (defScope s__law_like) .none kV_25 dc_25 pm_25 an_25 cd_25 ct_25), sl_25⟩)
    (c_25 : PySem.W.codeIn K cd_25 "_law_like" = true)
    (k_25 : PySem.W.keepIn K (.ref f_25) = true)
    (a_26 : PySem.W.nsIn K mainGlobals "_law_single" = some (some (.ref f_26)))
    (l_26 : K.lookup f_26 = some ⟨oc_26, od_26, .func (PySem.W.fnOf "_law_single" "_law_single" (defArgs s__law_single) (defBody s__law_single) (defScope s__law_single) .none kV_26 dc_26 pm_26 an_26 cd_26 ct_26), sl_26⟩)
    (c_26 : PySem.W.codeIn K cd_26 "_law_single" = true)
    (k_26 : PySem.W.keepIn K (.ref f_26) = true)
    (a_27 : PySem.W.nsIn K mainGlobals "_law_lasting" = some (some (.ref f_27)))
    (l_27 : K.lookup f_27 = some ⟨oc_27, od_27, .func (PySem.W.fnOf "_law_lasting" "_law_lasting" (defArgs s__law_lasting) (defBody s__law_lasting) (defScope s__law_lasting) .none kV_27 dc_27 pm_27 an_27 cd_27 ct_27), sl_27⟩)
    (c_27 : PySem.W.codeIn K cd_27 "_law_lasting" = true)
    (k_27 : PySem.W.keepIn K (.ref f_27) = true)
    (a_28 : PySem.W.nsIn K mainGlobals "_law_twice" = some (some (.ref f_28)))
    (l_28 : K.lookup f_28 = some ⟨oc_28, od_28, .func (PySem.W.fnOf "_law_twice" "_law_twice" (defArgs s__law_twice) (defBody s__law_twice) (defScope s__law_twice) .none kV_28 dc_28 pm_28 an_28 cd_28 ct_28), sl_28⟩)
    (c_28 : PySem.W.codeIn K cd_28 "_law_twice" = true)
    (k_28 : PySem.W.keepIn K (.ref f_28) = true)
    (a_29 : PySem.W.nsIn K mainGlobals "_law_left" = some (some (.ref f_29)))
    (l_29 : K.lookup f_29 = some ⟨oc_29, od_29, .func (PySem.W.fnOf "_law_left" "_law_left" (defArgs s__law_left) (defBody s__law_left) (defScope s__law_left) .none kV_29 dc_29 pm_29 an_29 cd_29 ct_29), sl_29⟩)
    (c_29 : PySem.W.codeIn K cd_29 "_law_left" = true)
    (k_29 : PySem.W.keepIn K (.ref f_29) = true)
    (a_30 : PySem.W.nsIn K mainGlobals "_law_gone" = some (some (.ref f_30)))
    (l_30 : K.lookup f_30 = some ⟨oc_30, od_30, .func (PySem.W.fnOf "_law_gone" "_law_gone" (defArgs s__law_gone) (defBody s__law_gone) (defScope s__law_gone) .none kV_30 dc_30 pm_30 an_30 cd_30 ct_30), sl_30⟩)
    (c_30 : PySem.W.codeIn K cd_30 "_law_gone" = true)
    (k_30 : PySem.W.keepIn K (.ref f_30) = true)
    (a_31 : PySem.W.nsIn K mainGlobals "_law_safe" = some (some (.ref f_31)))
    (l_31 : K.lookup f_31 = some ⟨oc_31, od_31, .func (PySem.W.fnOf "_law_safe" "_law_safe" (defArgs s__law_safe) (defBody s__law_safe) (defScope s__law_safe) .none kV_31 dc_31 pm_31 an_31 cd_31 ct_31), sl_31⟩)
    (c_31 : PySem.W.codeIn K cd_31 "_law_safe" = true)
    (k_31 : PySem.W.keepIn K (.ref f_31) = true)
    (a_32 : PySem.W.nsIn K mainGlobals "_law_asked_safety" = some (some (.ref f_32)))
    (l_32 : K.lookup f_32 = some ⟨oc_32, od_32, .func (PySem.W.fnOf "_law_asked_safety" "_law_asked_safety" (defArgs s__law_asked_safety) (defBody s__law_asked_safety) (defScope s__law_asked_safety) .none kV_32 dc_32 pm_32 an_32 cd_32 ct_32), sl_32⟩)
    (c_32 : PySem.W.codeIn K cd_32 "_law_asked_safety" = true)
    (k_32 : PySem.W.keepIn K (.ref f_32) = true)
    (a_33 : PySem.W.nsIn K mainGlobals "_law_asked_borne" = some (some (.ref f_33)))
    (l_33 : K.lookup f_33 = some ⟨oc_33, od_33, .func (PySem.W.fnOf "_law_asked_borne" "_law_asked_borne" (defArgs s__law_asked_borne) (defBody s__law_asked_borne) (defScope s__law_asked_borne) .none kV_33 dc_33 pm_33 an_33 cd_33 ct_33), sl_33⟩)
    (c_33 : PySem.W.codeIn K cd_33 "_law_asked_borne" = true)
    (k_33 : PySem.W.keepIn K (.ref f_33) = true)
    (a_34 : PySem.W.nsIn K mainGlobals "_law_least" = some (some (.ref f_34)))
    (l_34 : K.lookup f_34 = some ⟨oc_34, od_34, .func (PySem.W.fnOf "_law_least" "_law_least" (defArgs s__law_least) (defBody s__law_least) (defScope s__law_least) .none kV_34 dc_34 pm_34 an_34 cd_34 ct_34), sl_34⟩)
    (c_34 : PySem.W.codeIn K cd_34 "_law_least" = true)
    (k_34 : PySem.W.keepIn K (.ref f_34) = true)
    (a_35 : PySem.W.nsIn K mainGlobals "_law_asked_least" = some (some (.ref f_35)))
    (l_35 : K.lookup f_35 = some ⟨oc_35, od_35, .func (PySem.W.fnOf "_law_asked_least" "_law_asked_least" (defArgs s__law_asked_least) (defBody s__law_asked_least) (defScope s__law_asked_least) .none kV_35 dc_35 pm_35 an_35 cd_35 ct_35), sl_35⟩)
    (c_35 : PySem.W.codeIn K cd_35 "_law_asked_least" = true)
    (k_35 : PySem.W.keepIn K (.ref f_35) = true)
    (a_36 : PySem.W.nsIn K mainGlobals "law" = some (some (.ref f_36)))
    (l_36 : K.lookup f_36 = some ⟨oc_36, od_36, .func (PySem.W.fnOf "law" "law" (defArgs s_law) (defBody s_law) (defScope s_law) .none kV_36 dc_36 pm_36 an_36 cd_36 ct_36), sl_36⟩)
    (c_36 : PySem.W.codeIn K cd_36 "law" = true)
    (k_36 : PySem.W.keepIn K (.ref f_36) = true)
    : ∃ fd : FuncData, (∀ (s : Shared) (v : Value), BindsTo s fd ⟨[v], []⟩ [("script", v)]) ∧ ∀ base : Heap, K.In base → base.Ns mainGlobals mg → FnOk l.prog w K mg base CX0 8 fa fd ["script"] (sp_law K) := by
  have e := hfa.symm.trans (PySem.W.mg_of X G a_36)
  cases e
  have F_is_integer := fun_mk (st := s_is_integer) l_0 c_0 k_0
  have b_is_integer := F_is_integer.binds (ps := ["value"]) fun _ _ _ _ _ _ us hl => match us, hl with | [_], _ => rfl
  have F_is_number : FunD K "is_number" "is_number" (defArgs s_is_number) (defBody s_is_number) (defScope s_is_number) [.non] [] f_1 _ := ⟨⟨_, _, _, _, _, _, _, _, _, _, rfl, l_1, c_1, .inr ⟨by simp, _, _, _, _, rfl, t_1, rfl, .cons rfl .nil⟩, .inl rfl⟩, k_1⟩
  obtain ⟨ds_1, hds_1, b_is_number⟩ := F_is_number.binds1 (ps := ["value", "most"]) 2 1 (by simp) (by rfl) (fun _ _ _ _ _ _ _ us its hl hi => match us, its, hl, hi with | [_, _], [_], _, _ => ⟨_, rfl, rfl⟩)
  cases hds_1
  have F_Numbers_init := fun_mk (st := s_Numbers_init) l_2 c_2 k_2
  have b_Numbers_init := F_Numbers_init.binds (ps := ["self", "k", "f", "d", "m", "w1", "w2", "g"]) fun _ _ _ _ _ _ us hl => match us, hl with | [_, _, _, _, _, _, _, _], _ => rfl
  have F_near_slack := fun_mk (st := s_near_slack) l_3 c_3 k_3
  have b_near_slack := F_near_slack.binds (ps := ["numbers", "spread"]) fun _ _ _ _ _ _ us hl => match us, hl with | [_, _], _ => rfl
  have F_far_slack := fun_mk (st := s_far_slack) l_4 c_4 k_4
  have b_far_slack := F_far_slack.binds (ps := ["numbers", "spread"]) fun _ _ _ _ _ _ us hl => match us, hl with | [_, _], _ => rfl
  have F_mend_slack := fun_mk (st := s_mend_slack) l_5 c_5 k_5
  have b_mend_slack := F_mend_slack.binds (ps := ["numbers", "spread"]) fun _ _ _ _ _ _ us hl => match us, hl with | [_, _], _ => rfl
  have F_is_single := fun_mk (st := s_is_single) l_6 c_6 k_6
  have b_is_single := F_is_single.binds (ps := ["numbers", "spread"]) fun _ _ _ _ _ _ us hl => match us, hl with | [_, _], _ => rfl
  have F_is_lasting := fun_mk (st := s_is_lasting) l_7 c_7 k_7
  have b_is_lasting := F_is_lasting.binds (ps := ["numbers", "spread"]) fun _ _ _ _ _ _ us hl => match us, hl with | [_, _], _ => rfl
  have F_is_safe := fun_mk (st := s_is_safe) l_8 c_8 k_8
  have b_is_safe := F_is_safe.binds (ps := ["numbers", "spread"]) fun _ _ _ _ _ _ us hl => match us, hl with | [_, _], _ => rfl
  have F_times_over := fun_mk (st := s_times_over) l_9 c_9 k_9
  have b_times_over := F_times_over.binds (ps := ["many", "spread"]) fun _ _ _ _ _ _ us hl => match us, hl with | [_, _], _ => rfl
  have F_must_leave := fun_mk (st := s_must_leave) l_10 c_10 k_10
  have b_must_leave := F_must_leave.binds (ps := ["numbers"]) fun _ _ _ _ _ _ us hl => match us, hl with | [_], _ => rfl
  have F_words_to_twice := fun_mk (st := s_words_to_twice) l_11 c_11 k_11
  have b_words_to_twice := F_words_to_twice.binds (ps := ["numbers", "spread"]) fun _ _ _ _ _ _ us hl => match us, hl with | [_, _], _ => rfl
  have F_keepers_beyond := fun_mk (st := s_keepers_beyond) l_12 c_12 k_12
  have b_keepers_beyond := F_keepers_beyond.binds (ps := ["numbers"]) fun _ _ _ _ _ _ us hl => match us, hl with | [_], _ => rfl
  have F_words_to_gone := fun_mk (st := s_words_to_gone) l_13 c_13 k_13
  have b_words_to_gone := F_words_to_gone.binds (ps := ["numbers", "spread"]) fun _ _ _ _ _ _ us hl => match us, hl with | [_, _], _ => rfl
  have F_left_behind := fun_mk (st := s_left_behind) l_14 c_14 k_14
  have b_left_behind := F_left_behind.binds (ps := ["numbers", "spread", "words"]) fun _ _ _ _ _ _ us hl => match us, hl with | [_, _, _], _ => rfl
  have F_is_safe_for := fun_mk (st := s_is_safe_for) l_15 c_15 k_15
  have b_is_safe_for := F_is_safe_for.binds (ps := ["numbers", "spread", "words"]) fun _ _ _ _ _ _ us hl => match us, hl with | [_, _, _], _ => rfl
  have F_liars_borne := fun_mk (st := s_liars_borne) l_16 c_16 k_16
  have b_liars_borne := F_liars_borne.binds (ps := ["numbers", "spread"]) fun _ _ _ _ _ _ us hl => match us, hl with | [_, _], _ => rfl
  have F_spread_borne := fun_mk (st := s_spread_borne) l_17 c_17 k_17
  have b_spread_borne := F_spread_borne.binds (ps := ["numbers"]) fun _ _ _ _ _ _ us hl => match us, hl with | [_], _ => rfl
  have F_pieces_borne := fun_mk (st := s_pieces_borne) l_18 c_18 k_18
  have b_pieces_borne := F_pieces_borne.binds (ps := ["numbers", "spread"]) fun _ _ _ _ _ _ us hl => match us, hl with | [_, _], _ => rfl
  have F_least_triples := fun_mk (st := s_least_triples) l_19 c_19 k_19
  have b_least_triples := F_least_triples.binds (ps := ["k", "f", "m", "spread", "most"]) fun _ _ _ _ _ _ us hl => match us, hl with | [_, _, _, _, _], _ => rfl
  have F_cheapest_triple := fun_mk (st := s_cheapest_triple) l_20 c_20 k_20
  have b_cheapest_triple := F_cheapest_triple.binds (ps := ["k", "f", "m", "spread", "most", "prices"]) fun _ _ _ _ _ _ us hl => match us, hl with | [_, _, _, _, _, _], _ => rfl
  have F_can_end := fun_mk (st := s_can_end) l_21 c_21 k_21
  have b_can_end := F_can_end.binds (ps := ["numbers"]) fun _ _ _ _ _ _ us hl => match us, hl with | [_], _ => rfl
  have F__law_heap := fun_mk (st := s__law_heap) l_22 c_22 k_22
  have b__law_heap := F__law_heap.binds (ps := ["script"]) fun _ _ _ _ _ _ us hl => match us, hl with | [_], _ => rfl
  have F__law_draw := fun_mk (st := s__law_draw) l_23 c_23 k_23
  have b__law_draw := F__law_draw.binds (ps := ["heap", "many"]) fun _ _ _ _ _ _ us hl => match us, hl with | [_, _], _ => rfl
  have F__law_pick := fun_mk (st := s__law_pick) l_24 c_24 k_24
  have b__law_pick := F__law_pick.binds (ps := ["heap", "some"]) fun _ _ _ _ _ _ us hl => match us, hl with | [_, _], _ => rfl
  have F__law_like := fun_mk (st := s__law_like) l_25 c_25 k_25
  have b__law_like := F__law_like.binds (ps := ["told", "due"]) fun _ _ _ _ _ _ us hl => match us, hl with | [_, _], _ => rfl
  have F__law_single := fun_mk (st := s__law_single) l_26 c_26 k_26
  have b__law_single := F__law_single.binds (ps := ["k", "f", "spread", "triple"]) fun _ _ _ _ _ _ us hl => match us, hl with | [_, _, _, _], _ => rfl
  have F__law_lasting := fun_mk (st := s__law_lasting) l_27 c_27 k_27
  have b__law_lasting := F__law_lasting.binds (ps := ["k", "f", "m", "spread", "triple"]) fun _ _ _ _ _ _ us hl => match us, hl with | [_, _, _, _, _], _ => rfl
  have F__law_twice := fun_mk (st := s__law_twice) l_28 c_28 k_28
  have b__law_twice := F__law_twice.binds (ps := ["k", "f", "spread", "d", "triple"]) fun _ _ _ _ _ _ us hl => match us, hl with | [_, _, _, _, _], _ => rfl
  have F__law_left := fun_mk (st := s__law_left) l_29 c_29 k_29
  have b__law_left := F__law_left.binds (ps := ["k", "f", "m", "spread", "d", "triple", "words"]) fun _ _ _ _ _ _ us hl => match us, hl with | [_, _, _, _, _, _, _], _ => rfl
  have F__law_gone := fun_mk (st := s__law_gone) l_30 c_30 k_30
  have b__law_gone := F__law_gone.binds (ps := ["k", "f", "m", "spread", "d", "triple"]) fun _ _ _ _ _ _ us hl => match us, hl with | [_, _, _, _, _, _], _ => rfl
  have F__law_safe := fun_mk (st := s__law_safe) l_31 c_31 k_31
  have b__law_safe := F__law_safe.binds (ps := ["k", "f", "m", "spread", "triple"]) fun _ _ _ _ _ _ us hl => match us, hl with | [_, _, _, _, _], _ => rfl
  have F__law_asked_safety := fun_mk (st := s__law_asked_safety) l_32 c_32 k_32
  have b__law_asked_safety := F__law_asked_safety.binds (ps := ["heap", "k", "f", "m", "spread", "d", "triple"]) fun _ _ _ _ _ _ us hl => match us, hl with | [_, _, _, _, _, _, _], _ => rfl
  have F__law_asked_borne := fun_mk (st := s__law_asked_borne) l_33 c_33 k_33
  have b__law_asked_borne := F__law_asked_borne.binds (ps := ["k", "f", "m", "spread", "d", "triple"]) fun _ _ _ _ _ _ us hl => match us, hl with | [_, _, _, _, _, _], _ => rfl
  have F__law_least := fun_mk (st := s__law_least) l_34 c_34 k_34
  have b__law_least := F__law_least.binds (ps := ["k", "f", "m", "spread", "most"]) fun _ _ _ _ _ _ us hl => match us, hl with | [_, _, _, _, _], _ => rfl
  have F__law_asked_least := fun_mk (st := s__law_asked_least) l_35 c_35 k_35
  have b__law_asked_least := F__law_asked_least.binds (ps := ["heap", "k", "f", "m", "spread"]) fun _ _ _ _ _ _ us hl => match us, hl with | [_, _, _, _, _], _ => rfl
  have F_law := fun_mk (st := s_law) l_36 c_36 k_36
  have b_law := F_law.binds (ps := ["script"]) fun _ _ _ _ _ _ us hl => match us, hl with | [_], _ => rfl
  let T : Txt K mg := ⟨PySem.W.mg_none_of X G z_isinstance, PySem.W.mg_none_of X G z_int, PySem.W.mg_none_of X G z_bool, PySem.W.mg_none_of X G z_str, PySem.W.mg_none_of X G z_tuple, PySem.W.mg_none_of X G z_range, PySem.W.mg_none_of X G z_zip, PySem.W.mg_none_of X G z_enumerate, PySem.W.mg_none_of X G z_len, PySem.W.mg_none_of X G z_abs, PySem.W.mg_none_of X G z_min, PySem.W.mg_none_of X G z_max, PySem.W.mg_none_of X G z_sum, PySem.W.mg_none_of X G z_all, PySem.W.mg_none_of X G z_any, t_MOST_COPIES, PySem.W.mg_of X G g_MOST_COPIES, t_MOST_LAG, PySem.W.mg_of X G g_MOST_LAG, t_MOST_PIECES, PySem.W.mg_of X G g_MOST_PIECES, t_MOST_MADE, PySem.W.mg_of X G g_MOST_MADE, C_Numbers, f_2, PySem.W.mg_of X G aC, ⟨mk, a_2, i_2, kc⟩, ⟨pg, hd, po, sa⟩, n_k, n_f, n_d, n_m, n_w1, n_w2, n_g, i1, i2, i3, i4, kit_self C_Numbers⟩
  refine ⟨PySem.W.fnOf "law" "law" (defArgs s_law) (defBody s_law) (defScope s_law) .none kV_36 dc_36 pm_36 an_36 cd_36 ct_36, fun s v => .of_eq rfl, fun base _ _ => ?_⟩
  let D_is_integer : Df l.prog w K mg base 1 "is_integer" ["value"] (sp_is_integer) := ⟨f_0, _, ok_is_integer F_is_integer T , PySem.W.mg_of X G a_0, k_0, b_is_integer⟩
  let D_is_number : Df l.prog w K mg base 2 "is_number" ["value", "most"] (sp_is_number) := ⟨f_1, _, ok_is_number F_is_number T D_is_integer, PySem.W.mg_of X G a_1, k_1, b_is_number⟩
  have G_Numbers_init : FnOk l.prog w K mg base CX0 3 f_2 _ ["self", "k", "f", "d", "m", "w1", "w2", "g"] (sp_Numbers_init T.C_Numbers) := ok_Numbers_init F_Numbers_init T D_is_number
  let D_near_slack : Df l.prog w K mg base 1 "near_slack" ["numbers", "spread"] (spNum T.C_Numbers fun k f d m w1 w2 g s => .int (nearI k f w1 s)) := ⟨f_3, _, ok_near F_near_slack T , PySem.W.mg_of X G a_3, k_3, b_near_slack⟩
  let D_far_slack : Df l.prog w K mg base 1 "far_slack" ["numbers", "spread"] (spNum T.C_Numbers fun k f d m w1 w2 g s => .int (farI k f w2 g s)) := ⟨f_4, _, ok_far F_far_slack T , PySem.W.mg_of X G a_4, k_4, b_far_slack⟩
  let D_mend_slack : Df l.prog w K mg base 2 "mend_slack" ["numbers", "spread"] (spNum T.C_Numbers fun k f d m w1 w2 g s => .int (farI k f w2 g s - m)) := ⟨f_5, _, ok_mend F_mend_slack T D_far_slack, PySem.W.mg_of X G a_5, k_5, b_mend_slack⟩
  let D_is_single : Df l.prog w K mg base 2 "is_single" ["numbers", "spread"] (spNum T.C_Numbers fun k f d m w1 w2 g s => .bl (singleB k f w1 w2 g s)) := ⟨f_6, _, ok_single F_is_single T D_near_slack D_far_slack, PySem.W.mg_of X G a_6, k_6, b_is_single⟩
  let D_is_lasting : Df l.prog w K mg base 3 "is_lasting" ["numbers", "spread"] (spNum T.C_Numbers fun k f d m w1 w2 g s => .bl (lastB k f m w2 g s)) := ⟨f_7, _, ok_lasting F_is_lasting T D_mend_slack, PySem.W.mg_of X G a_7, k_7, b_is_lasting⟩
  let D_is_safe : Df l.prog w K mg base 4 "is_safe" ["numbers", "spread"] (spNum T.C_Numbers fun k f d m w1 w2 g s => .bl (singleB k f w1 w2 g s && lastB k f m w2 g s)) := ⟨f_8, _, ok_safe F_is_safe T D_is_single D_is_lasting, PySem.W.mg_of X G a_8, k_8, b_is_safe⟩
  let D_times_over : Df l.prog w K mg base 1 "times_over" ["many", "spread"] (sp_times) := ⟨f_9, _, ok_times F_times_over T , PySem.W.mg_of X G a_9, k_9, b_times_over⟩
  let D_must_leave : Df l.prog w K mg base 1 "must_leave" ["numbers"] (spNum1 T.C_Numbers fun k f d m w1 w2 g => .int (needI k f w1 w2)) := ⟨f_10, _, ok_must F_must_leave T , PySem.W.mg_of X G a_10, k_10, b_must_leave⟩
  let D_words_to_twice : Df l.prog w K mg base 3 "words_to_twice" ["numbers", "spread"] (spNum T.C_Numbers fun k f d m w1 w2 g s => optV (twiceO k f d w1 w2 g s)) := ⟨f_11, _, ok_twice F_words_to_twice T D_near_slack D_is_single D_times_over D_must_leave, PySem.W.mg_of X G a_11, k_11, b_words_to_twice⟩
  let D_keepers_beyond : Df l.prog w K mg base 1 "keepers_beyond" ["numbers"] (spNum1 T.C_Numbers fun k f d m w1 w2 g => .int (beyondI f m w2)) := ⟨f_12, _, ok_beyond F_keepers_beyond T , PySem.W.mg_of X G a_12, k_12, b_keepers_beyond⟩
  let D_words_to_gone : Df l.prog w K mg base 4 "words_to_gone" ["numbers", "spread"] (spNum T.C_Numbers fun k f d m w1 w2 g s => optV (goneO k f d m w2 g s)) := ⟨f_13, _, ok_gone F_words_to_gone T D_keepers_beyond D_is_lasting D_times_over, PySem.W.mg_of X G a_13, k_13, b_words_to_gone⟩
  let D_left_behind : Df l.prog w K mg base 4 "left_behind" ["numbers", "spread", "words"] (sp_left_behind T.C_Numbers) := ⟨f_14, _, ok_left_behind F_left_behind T D_is_lasting D_times_over, PySem.W.mg_of X G a_14, k_14, b_left_behind⟩
  let D_is_safe_for : Df l.prog w K mg base 5 "is_safe_for" ["numbers", "spread", "words"] (sp_safe_for T.C_Numbers) := ⟨f_15, _, ok_safe_for F_is_safe_for T D_words_to_twice D_words_to_gone, PySem.W.mg_of X G a_15, k_15, b_is_safe_for⟩
  let D_liars_borne : Df l.prog w K mg base 3 "liars_borne" ["numbers", "spread"] (spNum T.C_Numbers fun k f d m w1 w2 g s => optV (liarsO k f m w1 w2 g s)) := ⟨f_16, _, ok_liars F_liars_borne T D_near_slack D_mend_slack, PySem.W.mg_of X G a_16, k_16, b_liars_borne⟩
  let D_spread_borne : Df l.prog w K mg base 5 "spread_borne" ["numbers"] (spNum1 T.C_Numbers fun k f d m w1 w2 g => optV (spreadO k f m w1 w2 g)) := ⟨f_17, _, ok_spread F_spread_borne T D_near_slack D_mend_slack D_is_safe, PySem.W.mg_of X G a_17, k_17, b_spread_borne⟩
  let D_pieces_borne : Df l.prog w K mg base 3 "pieces_borne" ["numbers", "spread"] (spNum T.C_Numbers fun k f d m w1 w2 g s => optV (piecesO k f w1 w2 g s)) := ⟨f_18, _, ok_pieces F_pieces_borne T D_is_single D_far_slack, PySem.W.mg_of X G a_18, k_18, b_pieces_borne⟩
  let D_least_triples : Df l.prog w K mg base 1 "least_triples" ["k", "f", "m", "spread", "most"] (sp_least K) := ⟨f_19, _, ok_least F_least_triples T , PySem.W.mg_of X G a_19, k_19, b_least_triples⟩
  let D_cheapest_triple : Df l.prog w K mg base 2 "cheapest_triple" ["k", "f", "m", "spread", "most", "prices"] (sp_cheapest K) := ⟨f_20, _, ok_cheapest F_cheapest_triple T D_least_triples, PySem.W.mg_of X G a_20, k_20, b_cheapest_triple⟩
  let D_can_end : Df l.prog w K mg base 1 "can_end" ["numbers"] (spNum1 T.C_Numbers fun k f d m w1 w2 g => .bl (decide (mx (mx w1 w2) g ≤ k - f))) := ⟨f_21, _, ok_can_end F_can_end T , PySem.W.mg_of X G a_21, k_21, b_can_end⟩
  let D__law_heap : Df l.prog w K mg base 1 "_law_heap" ["script"] (sp_heap K) := ⟨f_22, _, ok_heap F__law_heap T , PySem.W.mg_of X G a_22, k_22, b__law_heap⟩
  let D__law_draw : Df l.prog w K mg base 1 "_law_draw" ["heap", "many"] (sp_draw) := ⟨f_23, _, ok_draw F__law_draw T , PySem.W.mg_of X G a_23, k_23, b__law_draw⟩
  let D__law_pick : Df l.prog w K mg base 2 "_law_pick" ["heap", "some"] (sp_pick) := ⟨f_24, _, ok_pick F__law_pick T D__law_draw, PySem.W.mg_of X G a_24, k_24, b__law_pick⟩
  let D_l0 : Df l.prog w K mg base 0 "_law_like" ["told", "due"] (spLike K ScF) := ⟨f_25, _, spLike_no, PySem.W.mg_of X G a_25, k_25, b__law_like⟩
  let D_l1 : Df l.prog w K mg base 1 "_law_like" ["told", "due"] (spLike K (Sc ScF)) := ⟨f_25, _, ok_like T D_l0 F__law_like, PySem.W.mg_of X G a_25, k_25, b__law_like⟩
  let D_l2 : Df l.prog w K mg base 2 "_law_like" ["told", "due"] (spLike K (Sc (Sc ScF))) := ⟨f_25, _, ok_like T D_l1 F__law_like, PySem.W.mg_of X G a_25, k_25, b__law_like⟩
  let D__law_like : Df l.prog w K mg base 3 "_law_like" ["told", "due"] (spLike K C2) := ⟨f_25, _, ok_like T D_l2 F__law_like, PySem.W.mg_of X G a_25, k_25, b__law_like⟩
  let D__law_single : Df l.prog w K mg base 1 "_law_single" ["k", "f", "spread", "triple"] (sp_Lsingle K) := ⟨f_26, _, ok_Lsingle F__law_single T , PySem.W.mg_of X G a_26, k_26, b__law_single⟩
  let D__law_lasting : Df l.prog w K mg base 1 "_law_lasting" ["k", "f", "m", "spread", "triple"] (sp_Llasting K) := ⟨f_27, _, ok_Llasting F__law_lasting T , PySem.W.mg_of X G a_27, k_27, b__law_lasting⟩
  let D__law_twice : Df l.prog w K mg base 1 "_law_twice" ["k", "f", "spread", "d", "triple"] (sp_Ltwice K) := ⟨f_28, _, ok_Ltwice F__law_twice T , PySem.W.mg_of X G a_28, k_28, b__law_twice⟩
  let D__law_left : Df l.prog w K mg base 1 "_law_left" ["k", "f", "m", "spread", "d", "triple", "words"] (sp_Lleft K) := ⟨f_29, _, ok_Lleft F__law_left T , PySem.W.mg_of X G a_29, k_29, b__law_left⟩
  let D__law_gone : Df l.prog w K mg base 2 "_law_gone" ["k", "f", "m", "spread", "d", "triple"] (sp_Lgone K) := ⟨f_30, _, ok_Lgone F__law_gone T D__law_left, PySem.W.mg_of X G a_30, k_30, b__law_gone⟩
  let D__law_safe : Df l.prog w K mg base 2 "_law_safe" ["k", "f", "m", "spread", "triple"] (sp_Lsafe K) := ⟨f_31, _, ok_Lsafe F__law_safe T D__law_single D__law_lasting, PySem.W.mg_of X G a_31, k_31, b__law_safe⟩
  let D__law_asked_safety : Df l.prog w K mg base 7 "_law_asked_safety" ["heap", "k", "f", "m", "spread", "d", "triple"] (sp_safety K) := ⟨f_32, _, ok_safety F__law_asked_safety T G_Numbers_init b_Numbers_init D__law_twice D__law_gone D__law_single D__law_lasting D_near_slack D_far_slack D_mend_slack D__law_like D_is_single D_is_lasting D_is_safe D_words_to_twice D_words_to_gone D__law_draw D_is_safe_for D_left_behind D__law_left D_can_end, PySem.W.mg_of X G a_32, k_32, b__law_asked_safety⟩
  let D__law_asked_borne : Df l.prog w K mg base 7 "_law_asked_borne" ["k", "f", "m", "spread", "d", "triple"] (sp_borne K) := ⟨f_33, _, ok_borne F__law_asked_borne T G_Numbers_init b_Numbers_init D__law_safe D_liars_borne D_spread_borne D_pieces_borne D__law_like, PySem.W.mg_of X G a_33, k_33, b__law_asked_borne⟩
  let D__law_least : Df l.prog w K mg base 3 "_law_least" ["k", "f", "m", "spread", "most"] (sp_Lleast K) := ⟨f_34, _, ok_Lleast F__law_least T D__law_safe, PySem.W.mg_of X G a_34, k_34, b__law_least⟩
  let D__law_asked_least : Df l.prog w K mg base 7 "_law_asked_least" ["heap", "k", "f", "m", "spread"] (sp_Aleast) := ⟨f_35, _, ok_Aleast F__law_asked_least T D__law_draw D__law_pick D__law_least D_least_triples D__law_like D_cheapest_triple, PySem.W.mg_of X G a_35, k_35, b__law_asked_least⟩
  exact ok_law F_law T D__law_heap D__law_pick D__law_draw D__law_asked_safety D__law_asked_borne D__law_asked_least
theorem walk {l : PySem.W.OpenLaw} {q : Program} {loose : List Str} {XP : (Str → Option Value) → Heap → Prop} {YP : World → Heap → Prop} {d : DefRec} {K : Params → PySem.W.Frag} (hn : l.most = some 63) (hdf : d.params.defaults = [])
    (hY : ∀ (w : World) (h : Heap), YP w h → (K w.params).In h)
    (F : ∀ (w : World) (mg : Str → Option Value) (fa : Addr) (h : Heap), (K w.params).In h → h.Ns mainGlobals mg → mg d.name = some (.ref fa) →
      ∃ fd : FuncData, (∀ (s : Shared) (u : Value), BindsTo s fd ⟨[u], []⟩ [("script", u)]) ∧ ∀ base : Heap, (K w.params).In base → base.Ns mainGlobals mg → FnOk l.prog w (K w.params) mg base CX0 8 fa fd ["script"] (sp_law (K w.params))) :
    PySem.W.WalkO q loose XP YP l.row.toRowW d [] (fun f vs => PySem.call f vs) :=
  L2.walk_of (n := 63) (k := 8) (x := "script") (CX := fun _ => CX0) (sp := fun w => sp_law (K w.params)) hn (by decide) hdf ⟨rfl, by decide, by decide⟩ hY F (fun _ _ a ns hl _ hS => ⟨a, ns, rfl, hS, hl, fun _ => rfl⟩) fun _ _ _ _ _ z => z
end K26
open PySem PySem.W PyProof.Rows in
set_option maxRecDepth 100000 in
set_option maxHeartbeats 0 in
theorem PySem.Challenge.cw_piecesapart_k26_whole_thresholds_holds : PySem.Challenge.rw_piecesapart_k26_whole_thresholds.Holds := by
  w_on; o_law; k_head; (case hw => w_witness2)
  k_fill
  refine K26.walk (l := PySem.Challenge.rw_piecesapart_k26_whole_thresholds) rfl rfl (fun w h Y => PySem.W.kIn_of Y) ?F
  case F =>
    intro w mg fa h KX G hmg
    refine' K26.all_mk KX G hmg ?z_isinstance ?z_int ?z_bool ?z_str ?z_tuple ?z_range ?z_zip ?z_enumerate ?z_len ?z_abs ?z_min ?z_max ?z_sum ?z_all ?z_any ?g_MOST_COPIES ?g_MOST_LAG ?g_MOST_PIECES ?g_MOST_MADE ?aC ?pg ?hd ?po ?sa ?mk ?kc ?n_k ?n_f ?n_d ?n_m ?n_w1 ?n_w2 ?n_g ?i1 ?i2 ?i3 ?i4 ?a_0 ?l_0 ?c_0 ?k_0 ?a_1 ?l_1 ?c_1 ?k_1 ?t_1 ?a_2 ?i_2 ?l_2 ?c_2 ?k_2 ?a_3 ?l_3 ?c_3 ?k_3 ?a_4 ?l_4 ?c_4 ?k_4 ?a_5 ?l_5 ?c_5 ?k_5 ?a_6 ?l_6 ?c_6 ?k_6 ?a_7 ?l_7 ?c_7 ?k_7 ?a_8 ?l_8 ?c_8 ?k_8 ?a_9 ?l_9 ?c_9 ?k_9 ?a_10 ?l_10 ?c_10 ?k_10 ?a_11 ?l_11 ?c_11 ?k_11 ?a_12 ?l_12 ?c_12 ?k_12 ?a_13 ?l_13 ?c_13 ?k_13 ?a_14 ?l_14 ?c_14 ?k_14 ?a_15 ?l_15 ?c_15 ?k_15 ?a_16 ?l_16 ?c_16 ?k_16 ?a_17 ?l_17 ?c_17 ?k_17 ?a_18 ?l_18 ?c_18 ?k_18 ?a_19 ?l_19 ?c_19 ?k_19 ?a_20 ?l_20 ?c_20 ?k_20 ?a_21 ?l_21 ?c_21 ?k_21 ?a_22 ?l_22 ?c_22 ?k_22 ?a_23 ?l_23 ?c_23 ?k_23 ?a_24 ?l_24 ?c_24 ?k_24 ?a_25 ?l_25 ?c_25 ?k_25 ?a_26 ?l_26 ?c_26 ?k_26 ?a_27 ?l_27 ?c_27 ?k_27 ?a_28 ?l_28 ?c_28 ?k_28 ?a_29 ?l_29 ?c_29 ?k_29 ?a_30 ?l_30 ?c_30 ?k_30 ?a_31 ?l_31 ?c_31 ?k_31 ?a_32 ?l_32 ?c_32 ?k_32 ?a_33 ?l_33 ?c_33 ?k_33 ?a_34 ?l_34 ?c_34 ?k_34 ?a_35 ?l_35 ?c_35 ?k_35 ?a_36 ?l_36 ?c_36 ?k_36
    (case z_isinstance => k_is)
    (case z_int => k_is)
    (case z_bool => k_is)
    (case z_str => k_is)
    (case z_tuple => k_is)
    (case z_range => k_is)
    (case z_zip => k_is)
    (case z_enumerate => k_is)
    (case z_len => k_is)
    (case z_abs => k_is)
    (case z_min => k_is)
    (case z_max => k_is)
    (case z_sum => k_is)
    (case z_all => k_is)
    (case z_any => k_is)
    (case g_MOST_COPIES => k_is)
    (case g_MOST_LAG => k_is)
    (case g_MOST_PIECES => k_is)
    (case g_MOST_MADE => k_is)
    (case aC => k_is)
    (case pg => k_is)
    (case hd => k_is)
    (case po => k_is)
    (case sa => k_is)
    (case mk => k_is)
    (case kc => k_is)
    (case n_k => k_is)
    (case n_f => k_is)
    (case n_d => k_is)
    (case n_m => k_is)
    (case n_w1 => k_is)
    (case n_w2 => k_is)
    (case n_g => k_is)
    (case i1 => k_is)
    (case i2 => k_is)
    (case i3 => k_is)
    (case i4 => k_is)
    (case a_0 => k_is)
    (case l_0 => k_is)
    (case c_0 => k_is)
    (case k_0 => k_is)
    (case a_1 => k_is)
    (case l_1 => k_is)
    (case c_1 => k_is)
    (case k_1 => k_is)
    (case t_1 => k_is)
    (case a_2 => k_is)
    (case i_2 => k_is)
    (case l_2 => k_is)
    (case c_2 => k_is)
    (case k_2 => k_is)
    (case a_3 => k_is)
    (case l_3 => k_is)
    (case c_3 => k_is)
    (case k_3 => k_is)
    (case a_4 => k_is)
    (case l_4 => k_is)
    (case c_4 => k_is)
    (case k_4 => k_is)
    (case a_5 => k_is)
    (case l_5 => k_is)
    (case c_5 => k_is)
    (case k_5 => k_is)
    (case a_6 => k_is)
    (case l_6 => k_is)
    (case c_6 => k_is)
    (case k_6 => k_is)
    (case a_7 => k_is)
    (case l_7 => k_is)
    (case c_7 => k_is)
    (case k_7 => k_is)
    (case a_8 => k_is)
    (case l_8 => k_is)
    (case c_8 => k_is)
    (case k_8 => k_is)
    (case a_9 => k_is)
    (case l_9 => k_is)
    (case c_9 => k_is)
    (case k_9 => k_is)
    (case a_10 => k_is)
    (case l_10 => k_is)
    (case c_10 => k_is)
    (case k_10 => k_is)
    (case a_11 => k_is)
    (case l_11 => k_is)
    (case c_11 => k_is)
    (case k_11 => k_is)
    (case a_12 => k_is)
    (case l_12 => k_is)
    (case c_12 => k_is)
    (case k_12 => k_is)
    (case a_13 => k_is)
    (case l_13 => k_is)
    (case c_13 => k_is)
    (case k_13 => k_is)
    (case a_14 => k_is)
    (case l_14 => k_is)
    (case c_14 => k_is)
    (case k_14 => k_is)
    (case a_15 => k_is)
    (case l_15 => k_is)
    (case c_15 => k_is)
    (case k_15 => k_is)
    (case a_16 => k_is)
    (case l_16 => k_is)
    (case c_16 => k_is)
    (case k_16 => k_is)
    (case a_17 => k_is)
    (case l_17 => k_is)
    (case c_17 => k_is)
    (case k_17 => k_is)
    (case a_18 => k_is)
    (case l_18 => k_is)
    (case c_18 => k_is)
    (case k_18 => k_is)
    (case a_19 => k_is)
    (case l_19 => k_is)
    (case c_19 => k_is)
    (case k_19 => k_is)
    (case a_20 => k_is)
    (case l_20 => k_is)
    (case c_20 => k_is)
    (case k_20 => k_is)
    (case a_21 => k_is)
    (case l_21 => k_is)
    (case c_21 => k_is)
    (case k_21 => k_is)
    (case a_22 => k_is)
    (case l_22 => k_is)
    (case c_22 => k_is)
    (case k_22 => k_is)
    (case a_23 => k_is)
    (case l_23 => k_is)
    (case c_23 => k_is)
    (case k_23 => k_is)
    (case a_24 => k_is)
    (case l_24 => k_is)
    (case c_24 => k_is)
    (case k_24 => k_is)
    (case a_25 => k_is)
    (case l_25 => k_is)
    (case c_25 => k_is)
    (case k_25 => k_is)
    (case a_26 => k_is)
    (case l_26 => k_is)
    (case c_26 => k_is)
    (case k_26 => k_is)
    (case a_27 => k_is)
    (case l_27 => k_is)
    (case c_27 => k_is)
    (case k_27 => k_is)
    (case a_28 => k_is)
    (case l_28 => k_is)
    (case c_28 => k_is)
    (case k_28 => k_is)
    (case a_29 => k_is)
    (case l_29 => k_is)
    (case c_29 => k_is)
    (case k_29 => k_is)
    (case a_30 => k_is)
    (case l_30 => k_is)
    (case c_30 => k_is)
    (case k_30 => k_is)
    (case a_31 => k_is)
    (case l_31 => k_is)
    (case c_31 => k_is)
    (case k_31 => k_is)
    (case a_32 => k_is)
    (case l_32 => k_is)
    (case c_32 => k_is)
    (case k_32 => k_is)
    (case a_33 => k_is)
    (case l_33 => k_is)
    (case c_33 => k_is)
    (case k_33 => k_is)
    (case a_34 => k_is)
    (case l_34 => k_is)
    (case c_34 => k_is)
    (case k_34 => k_is)
    (case a_35 => k_is)
    (case l_35 => k_is)
    (case c_35 => k_is)
    (case k_35 => k_is)
    (case a_36 => k_is)
    (case l_36 => k_is)
    (case c_36 => k_is)
    (case k_36 => k_is)
