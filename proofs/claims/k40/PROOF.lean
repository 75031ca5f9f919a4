import PyProof.Rows.All
import Wide.All
import OpenK.AllK
import Wide.FinOn
import HandS.ForMost
import HandS.Zip
import HandS.Style
import HandS.IsInst
import HandS.Deep
import HandS.Defaults
import HandS.Flow
import HandS.Walk
import HandS.Flt
import KE.DataMinMax
import KE.GoesEnum
import HandS.Strs
import HandS.SortInts
import HandS.SetFor
import HandS.Star
import HandS.TupAny
import HandS.TupMul
import HandS.Wide
import HandS.Conv
import HandS.More
import HandS.TryOnly
import HandS.DictComp
import PySem.Challenge.RW_piecesapart_k40_whole_fooled_runs
set_option Elab.async false
set_option linter.all false
set_option maxRecDepth 100000
set_option maxHeartbeats 8000000
namespace Hl
open PySem PySem.Spec PyProof.Rows L2

/-! ### heaps that grow -/
theorem seqT {K : PySem.W.Frag} {H H' : Hp} {a : Addr} {xs : List V} (e : Same H H') (h : SqT K H a xs) : SqT K H' a xs := by
  rcases h with (h | ⟨o, h⟩) | h
  · exact .inl (.inl (e _ _ h))
  · exact .inl (.inr ⟨o, e _ _ h⟩)
  · exact .inr h
theorem same_new {H : Hp} {p : Addr} {o : HO} (h : H p = none) : Same H (upd H p o) := fun b x e => by
  rw [upd_ne (ne_of_none e h)]
  exact e
/-- what H does not know may change -/
theorem same_mut {H H' : Hp} {p : Addr} {o : HO} (e : Same H H') (h : H p = none) : Same H (upd H' p o) := fun b x hb => by
  rw [upd_ne (ne_of_none hb h)]
  exact e b x hb
theorem room65 {k : Nat} {A : Around} (r : Room k A) : A.units + 65 < cLine := by
  have := r.un
  omega
mutual
theorem dp_mono {K : PySem.W.Frag} {H H' : Hp} (e : Same H H') : ∀ {v : V} {d : PyData}, Dp K H v d → Dp K H' v d
  | _, _, .non => .non
  | _, _, .bl b => .bl b
  | _, _, .int i => .int i
  | _, _, .str x => .str x
  | _, _, .lst h a => .lst (e.seq h) (dps_mono e a)
  | _, _, .tup h a => .tup (seqT e h) (dps_mono e a)
theorem dps_mono {K : PySem.W.Frag} {H H' : Hp} (e : Same H H') : ∀ {vs : List V} {ds : List PyData}, DpAll K H vs ds → DpAll K H' vs ds
  | _, _, .nil => .nil
  | _, _, .cons h t => .cons (dp_mono e h) (dps_mono e t)
end
theorem dps_len {K : PySem.W.Frag} {H : Hp} : ∀ {vs : List V} {ds : List PyData}, DpAll K H vs ds → vs.length = ds.length
  | _, _, .nil => rfl
  | _, _, .cons _ t => by rw [List.length_cons, List.length_cons, dps_len t]
theorem dps_get {K : PySem.W.Frag} {H : Hp} : ∀ {vs : List V} {ds : List PyData} {i : Nat} {v : V}, DpAll K H vs ds → vs[i]? = some v → ∃ d, ds[i]? = some d ∧ Dp K H v d
  | _, _, _, _, .nil, h => by simp at h
  | _, _, 0, _, .cons h _, e => by simp at e; subst e; exact ⟨_, rfl, h⟩
  | _, _, i + 1, v, .cons _ t, e => by
    obtain ⟨d, h1, h2⟩ := dps_get (i := i) (v := v) t (by simpa using e)
    exact ⟨d, by simpa using h1, h2⟩
theorem dps_app {K : PySem.W.Frag} {H : Hp} : ∀ {vs ws : List V} {ds es : List PyData}, DpAll K H vs ds → DpAll K H ws es → DpAll K H (vs ++ ws) (ds ++ es)
  | _, _, _, _, .nil, h => h
  | _, _, _, _, .cons h t, u => .cons h (dps_app t u)
theorem dps_ints {K : PySem.W.Frag} {H : Hp} : ∀ ns : List Int, DpAll K H (ns.map V.int) (ns.map PyData.int)
  | [] => .nil
  | n :: r => .cons (.int n) (dps_ints r)
/-- an int's data -/
theorem dp_int {K : PySem.W.Frag} {H : Hp} {v : V} {i : Int} (h : Dp K H v (.int i)) : v = .int i := by cases h; rfl

/-! ### a def of the text that stands behind the top, with its promise -/
structure Df (P : Program) (w : World) (K : PySem.W.Frag) (mg : Str → Option Value) (base : Heap) (k : Nat) (nm : Str) (ps : List Str) (sp : Sp) where
  f : Addr
  fd : FuncData
  ok : FnOk P w K mg base CX0 k f fd ps sp
  m : mg nm = some (.ref f)
  kp : PySem.W.keepIn K (.ref f) = true
  b : Binds K fd ps []

theorem nofn {P : Program} {w : World} {K : PySem.W.Frag} {mg : Str → Option Value} {base : Heap} {CX : CXT} {k : Nat} {f : Addr} {fd : FuncData} {ps : List Str} : FnOk P w K mg base CX k f fd ps (fun _ _ _ _ => False) := ⟨fun _ _ _ _ h => h.elim, fun _ _ _ _ _ _ _ _ _ _ _ _ _ h => h.elim⟩
theorem fnok_or {P : Program} {w : World} {K : PySem.W.Frag} {mg : Str → Option Value} {base : Heap} {CX : CXT} {k : Nat} {f : Addr} {fd : FuncData} {ps : List Str} {sp sp' : Sp} (F : FnOk P w K mg base CX k f fd ps sp) (G : FnOk P w K mg base CX k f fd ps sp') :
    FnOk P w K mg base CX k f fd ps (fun vs H Q E => sp vs H Q E ∨ sp' vs H Q E) where
  len := fun vs H Q E h => h.elim (F.len vs H Q E) (G.len vs H Q E)
  run := fun A outer s H args us vs Q E hr he hb hv h => h.elim (F.run A outer s H args us vs Q E hr he hb hv) (G.run A outer s H args us vs Q E hr he hb hv)
section
variable {X : Cx} {CX : CXT} {k : Nat} {f C : Addr} {fd : FuncData} {ps ks : List Str} {sp : Sp} {E : XK} {x m : Str} {p pos apos kpos : Pos} {e o : Expr} {es : List Expr} {kws : List Keyword} {te ta : TE} {t tk : TA} {nm : Option Str}
variable {g : List Value → List Value → List Value} {gV : List V → List V → List V}
/-- f(k = v, ..) -/
theorem pe_callK0 (F : FnOk X.prog X.w X.K X.mg X.base CX k f fd ps sp) (hr : Room k X.A) (hg : Gl X x) (hm : X.mg x = some (.ref f)) (hk : PySem.W.keepIn X.K (.ref f) = true) (hb : KBinds X.K fd ps ks g gV) (hx : Passes CX X E)
    (hkw : PK X kws tk) (hall : (backToKw pos (keywordEach kws X.env)).all (·.1.isSome) = true := by rfl) (hks : (backToKw pos (keywordEach kws X.env)).filterMap (·.1) = ks := by rfl)
    (hdb : (x == ("__debug__" : Str)) = false := by decide)
    (hpl : ((backTo pos (starEach [] X.env)).any (·.1) || (backToKw pos (keywordEach kws X.env)).any (·.1.isNone)) = false := by rfl) :
    PE X (.Call (.Name x p) [] kws pos) (tCallK sp gV E tNil tk) := by
  refine ⟨fun pins s σ H Q I h => ?_⟩
  refine wpAny_Call_Name_kw (ld_glob I hg hm ?_ hdb)
  refine PySem.W.callWith_KW0 (h₀ := X.base) I.ok.mod.kin hk hall ?_ hpl
  refine thn (hkw.run pos pins s σ H _ I h) fun ws s2 ⟨zs, H2, I2, rz, q2⟩ => ⟨I2.kIn, ?_⟩
  rw [hks]
  exact run_fnk (us := []) (vs := []) F hr hb hx I2 .nil rz q2
end

/-! ### enumerate(tuple) -/
theorem meets_enumerate_newT {v : Value} {o : Obj} {H : Heap → Prop} (B : Begins v o H) :
    Meets (Builtin.«enumerate.__new__» ⟨[.type "enumerate", v], []⟩) (fun _ R s => H s.heap ∧
      R (.ok (.ret (.ref (s.heap.push o).objs.size))) { s with heap := (s.heap.push o).push { cls := .type "enumerate", data := .fields #[.none, .bool false, .ref s.heap.objs.size, rawInt 0, .none, .none] } }) :=
  .of_wp fun prog w A R s h => by
    obtain ⟨hp, g, d, tk, os⟩ := s; obtain ⟨h1, h⟩ := h
    have hsub := sub_enumerate
    have q1 : ∀ {A' : Around} {E : Value → Shared → Prop} {Q : Value → Shared → Prop}, Q (.ref hp.objs.size) ⟨hp.push o, g, d, tk, os⟩ → wpAny (model prog w) A' (pyIter v) Q E ⟨hp, g, d, tk, os⟩ :=
      fun q => B.iter prog w _ _ ⟨hp, g, d, tk, os⟩ _ h1 q
    wp_walk using q1
    refine wpAny_stack_any fun st => wpAny_pure ?_
    split
    · rename_i c _ _ _ _ _
      cases (c == Value.type "enumerate")
      · wp_walk using q1
        exact ⟨_, rfl, h⟩
      · wp_walk using q1
        exact ⟨_, rfl, h⟩
    · wp_walk using q1
      exact ⟨_, rfl, h⟩
theorem call_enumerate_tuple {prog : Program} {w : World} {A : Around} {E : Value → Shared → Prop} {s : Shared} {l : Addr} {items : Array Value} {Q : Value → Shared → Prop} (hL : s.heap.IsTuple l items)
    (h : ∀ h', IsEnum h' (s.heap.objs.size + 1) s.heap.objs.size 0 .none → h'.IsTupleIter s.heap.objs.size l 0 → h'.objs.size = s.heap.objs.size + 2 →
      (∀ b o, s.heap.get? b = some o → h'.get? b = some o) → Q (.ref (s.heap.objs.size + 1)) { s with heap := h' }) :
    wpAny (model prog w) A (call (.type "enumerate") [.ref l]) Q E s := by
  refine callType_new F.called_enumerate (by decide) (F.typeCall_enumerate_1 _) (F.newCall_enumerate_1 _) (fun obj => F.args_object_init_2 obj _) F.entry_enumerate_new
    (meets_enumerate_newT (begins_tuple l items)) ⟨hL, ?_⟩
  have hz : (s.heap.push { cls := .type "tuple_iterator", data := .fields #[.ref l, .int 0 0] }).objs.size = s.heap.objs.size + 1 := Heap.size_push ..
  show _ ∧ _
  rw [hz]
  have he : IsEnum ((s.heap.push { cls := .type "tuple_iterator", data := .fields #[.ref l, .int 0 0] }).push
      { cls := .type "enumerate", data := .fields #[.none, .bool false, .ref s.heap.objs.size, rawInt 0, .none, .none] }) (s.heap.objs.size + 1) s.heap.objs.size 0 .none := by
    have := Heap.get?_push_size (s.heap.push { cls := .type "tuple_iterator", data := .fields #[.ref l, .int 0 0] })
      (o := { cls := .type "enumerate", data := .fields #[.none, .bool false, .ref s.heap.objs.size, rawInt 0, .none, .none] }) rfl
    rw [hz] at this; exact this
  refine ⟨⟨_, he, rfl⟩, h _ he ⟨_, Heap.get?_push_of_some _ (Heap.get?_push_size _ rfl), rfl, rfl⟩ (by rw [Heap.size_push, hz]) fun b o x => Heap.get?_push_of_some _ (Heap.get?_push_of_some _ x)⟩
def IteT (K : PySem.W.Frag) (a : Addr) : It :=
  ⟨fun i H => ∃ (xs : List V) (x : V), SqT K H a xs ∧ xs[i]? = some x, fun i H v H' => ∃ T x, v = .ref T ∧ H T = none ∧ H' = upd H T (.tup [.int (i : Nat), x]) ∧ ∀ xs, SqT K H a xs → xs[i]? = some x, fun i H => ∃ xs : List V, SqT K H a xs ∧ xs.length = i⟩
theorem turn_enumT {P : Program} {w : World} {K : PySem.W.Frag} {elts : List Expr} {kk : Nat} {tpos : Pos} (a e it : Addr) (hai : a ≠ it) (hea : e ≠ a) :
    Turn P w K (.Tuple elts kk tpos) (IteT K a) [e, it] e (fun i h => (∃ old, IsEnum h e it ((i : Nat) : Int) old) ∧ h.IsTupleIter it a i ∧ e ≠ it) where
  mem := by simp
  obj := fun i h st b hb => by
    obtain ⟨⟨old, he⟩, ⟨o, ho, hc, hd⟩, _⟩ := st
    have e' : b = e ∨ b = it := by simpa using hb
    rcases e' with z | z
    · rw [z]; exact ⟨_, he, fun v q => nomatch q⟩
    · rw [z]; exact ⟨o, ho, fun v q => by rw [hd] at q; cases q⟩
  keep := fun i h h' st k => let ⟨⟨old, he⟩, hi, hne⟩ := st; ⟨⟨old, k e (by simp) _ he⟩, hi.at fun o q => k it (by simp) o q, hne⟩
  item := by
    intro X hP hw hK hc i pins s σ H E I hf st hg
    subst hP hw hK
    obtain ⟨⟨old, he⟩, hit, hne⟩ := st
    obtain ⟨xs, x, hq, hx⟩ := hg
    obtain ⟨its, rv, p, hz⟩ := I.tuple hq
    obtain ⟨u, hu, ru⟩ := rv.get hx
    have hlt : i < its.toArray.size := by
      obtain ⟨h1, _⟩ := List.getElem?_eq_some_iff.mp hu
      simpa using h1
    have hel : e < s.heap.objs.size := Heap.lt_size he
    have hil : it < s.heap.objs.size := by obtain ⟨_, q, _⟩ := hit; exact Heap.lt_size q
    refine wpAny_pyNext_enum_itemD (Draws.tuple (A := X.A.in1) (I.ok.hd hc) it a hai its.toArray) he ⟨hit, p⟩ hlt hne (by simp; exact ⟨hne, hea⟩) fun y h' tk hy ho hst hT hsz hk => ?_
    obtain rfl : y = u := by
      have z : its.toArray[i]? = some u := by simpa using hu
      exact Option.some.inj ((show its.toArray[i]? = some y from hy).symm.trans z)
    refine ⟨_, rfl, wpAny_letOwnedTupleGo_enum (s := { s with heap := h', toks := tk + 1 }) ho fun h'' he' sb => ?_⟩
    have hT2 : h''.get? s.heap.objs.size = some { cls := .type "tuple", data := .seq #[.int i tk, y] } := (sb.2 _ (Nat.ne_of_gt hel)).trans hT
    have new : ObjOk X.prog X.w (upd H s.heap.objs.size (.tup [.int (i : Nat), x])) h'' s.heap.objs.size (.tup [.int (i : Nat), x]) :=
      ⟨by show 2 ≤ sizeLine; decide, [.int i tk, y], .cons ⟨_, rfl⟩ (.cons ru .nil), ⟨_, hT2, rfl, _, rfl⟩⟩
    have I1 : Inv X pins σ (upd H s.heap.objs.size (.tup [.int (i : Nat), x])) { s with heap := h'', toks := tk + 1 } :=
      I.turnedNew (ch := [e, it]) (fun b ob hb q => (sb.2 b (fun z => hb (by simp [z]))).trans (hk b ob (fun z => hb (by simp [z])) (fun z => hb (by simp [z])) q)) hf (Nat.le_refl _) new
    refine ⟨.ref s.heap.objs.size, _, I1, rfl, ⟨_, x, rfl, I.hok.fresh (Nat.le_refl _), rfl, fun ys hy => by rw [I.tuple_inj hy hq]; exact hx⟩, ⟨⟨y, ?_⟩, hst.1.at fun o q => (sb.2 it (Ne.symm hne)).trans q, hne⟩, fun b hb => ?_⟩
    · have e1 : ((i + 1 : Nat) : Int) = (i : Int) + 1 := by omega
      rw [e1]; exact he'
    · have hb' : b < s.heap.objs.size := by
        have e' : b = e ∨ b = it := by simpa using hb
        rcases e' with z | z
        · rw [z]; exact hel
        · rw [z]; exact hil
      rw [upd_ne (Nat.ne_of_lt hb')]
      exact (hf b hb).1
  done := by
    intro X hP hw hK hc i pins s σ H E I hf st hg
    subst hP hw hK
    obtain ⟨⟨old, he⟩, hit, hne⟩ := st
    obtain ⟨xs, hq, hx⟩ := hg
    obtain ⟨its, rv, p, hz⟩ := I.tuple hq
    obtain ⟨f0, f1, f2, f3, f4, f5⟩ := hf it (by simp)
    have hl := rv.length
    have hi : i = its.toArray.size := by simp; omega
    exact wpAny_pyNext_enum_endD (Draws.tuple (A := X.A.in1) (I.ok.hd hc) it a hai its.toArray) he ⟨hi ▸ hit, p⟩ fun h' eb => ⟨rfl, I.turned (t' := s.toks) (fun b o hb q => eb b o hb q) f0 f1 f3 f4 f5⟩
  self := fun A i s Q E st h => let ⟨⟨_, he⟩, _⟩ := st; wpAny_pyIter_enum he h
def iEnumT (K : PySem.W.Frag) (ta : TA) : TI := fun σ H R => ta σ H fun vs H1 => ∃ a xs, vs = [.ref a] ∧ SqT K H1 a xs ∧ R (IteT K a) H1
theorem pi_enumT {X : Cx} {e : Expr} {ta : TA} {p pos tpos : Pos} {elts : List Expr} {kk : Nat} (hg : Gl X "enumerate") (hm : X.mg "enumerate" = none) (ha : PA X [e] ta) (hs : starEach [e] X.env = [(false, eval e X.env)] := by rfl) :
    PI X (.Tuple elts kk tpos) (.Call (.Name "enumerate" p) [e] [] pos) (iEnumT X.K ta) := by
  refine ⟨fun pins s σ H R I h => ?_⟩
  refine Call_ (ld_blt I hg hm boot_enumerate (PyProof.Rows.callWith_type1 (thn (ha.run pos pins s σ H _ I h) fun us s1 ⟨vs, H1, I1, r1, q1⟩ => ?_) hs rfl))
  obtain ⟨a, xs, ex, hq, q⟩ := q1
  subst ex
  cases r1 with
  | cons r rr =>
    cases rr
    cases r
    obtain ⟨its, rv, p', hz⟩ := I1.tuple hq
    have hal : a < s1.heap.objs.size := p'.lt
    refine call_enumerate_tuple (items := its.toArray) p' fun h' he hit hsz hk => wpAny_pyIter_enum he ?_
    have I2 : Inv X pins σ H1 { s1 with heap := h' } := I1.kept (t' := s1.toks) hk
    refine ⟨s1.heap.objs.size + 1, [s1.heap.objs.size + 1, s1.heap.objs.size], _, _, H1, rfl, I2, turn_enumT a (s1.heap.objs.size + 1) s1.heap.objs.size (Nat.ne_of_lt hal) (Ne.symm (Nat.ne_of_lt (Nat.lt_succ_of_lt hal))), ⟨⟨.none, he⟩, hit, Nat.succ_ne_self _⟩, fun b hb => ?_, q⟩
    have e' : b = s1.heap.objs.size + 1 ∨ b = s1.heap.objs.size := by simpa using hb
    have hle : s1.heap.objs.size ≤ b := by
      rcases e' with z | z
      · rw [z]; exact Nat.le_add_right _ _
      · rw [z]; exact Nat.le_refl _
    exact I1.fpOk hle (I1.hok.fresh hle)
theorem walk_enumT {K : PySem.W.Frag} {a : Addr} {xs : List V} : Walk (IteT K a) xs.length (fun H => SqT K H a xs) (YPair (fun i => some (.int (i : Nat))) (fun i => xs[i]?)) where
  goes := fun i H hi h => ⟨xs, xs[i], h, List.getElem?_eq_getElem hi⟩
  stops := fun H h => ⟨xs, h, rfl⟩
  yields := fun i H x H' _ h hy => by
    obtain ⟨T, y, rfl, hT, rfl, e⟩ := hy
    exact ⟨T, _, y, rfl, hT, rfl, rfl, e xs h⟩
theorem ite_dec {c A B : Prop} [Decidable c] (h1 : c → A) (h2 : ¬ c → B) : if decide c = true then A else B := by
  by_cases h : c
  · rw [decide_eq_true h]; exact iteT (h1 h)
  · rw [decide_eq_false h]; exact iteF (h2 h)
section
variable {X : Cx} {x : Str} {pos : Pos}
/-- a built-in class as a value -/
theorem pe_ty (T : String) (hg : Gl X x) (hm : X.mg x = none) (hv : bootBuiltins x = some (.type T) := by decide +kernel) (hn : x ≠ "__name__" := by decide) (hd : (x == ("__debug__" : Str)) = false := by decide) : PE X (.Name x pos) (tC (.ty T)) :=
  pe_bltn hg hm hv rfl hn hd
end
section
variable {K : PySem.W.Frag} {H : Hp} {Q : VK} {x : V} {a : Addr}
/-- isinstance, not to be looked into -/
structure RIs (K : PySem.W.Frag) (vs : List V) (H : Hp) (Q : VK) : Prop where
  h : rIsi K vs H Q
theorem call_isiS {X : Cx} : CallR X (.builtin "isinstance") (RIs X.K) := fun pins s σ H xs us Q I r h => call_isi pins s σ H xs us Q I r h.h
theorem isi_of {T U : String} {b : Bool} (ty : TyX K H x (.type T)) (h : kitB T U = some b) (q : Q (.bl b) H) : RIs K [x, .ty U] H Q := ⟨⟨_, _, _, _, _, rfl, .ty U, ty, kit_ty h, q⟩⟩
theorem isi_int (i : Int) (q : Q (.bl true) H) : RIs K [.int i, .ty "int"] H Q := isi_of (.base (.int i)) (by decide +kernel) q
theorem isi_intb (i : Int) (q : Q (.bl false) H) : RIs K [.int i, .ty "bool"] H Q := isi_of (.base (.int i)) (by decide +kernel) q
theorem ty_tup {xs : List V} (h : SqT K H a xs) : TyX K H (.ref a) (.type "tuple") := by
  rcases h with (h | ⟨o, h⟩) | ⟨o, its, n, l, c, _⟩
  · exact .base (.tup h)
  · exact .fTuple h
  · exact .kTuple l c
theorem ty_lst {xs : List V} (h : SqL K H a xs) : TyX K H (.ref a) (.type "list") := by
  rcases h with (h | ⟨o, h⟩) | ⟨o, its, n, l, c, _⟩
  · exact .base (.lst h)
  · exact .base (.frz h)
  · exact .kList l c
/-- the name of a data's type -/
def tyName : PyData → String
  | .none => "NoneType"
  | .bool _ => "bool"
  | .int _ => "int"
  | .str _ => "str"
  | .list _ => "list"
  | .tuple _ => "tuple"
  | _ => ""
end
theorem ty_dp {K : PySem.W.Frag} {H : Hp} : ∀ {v : V} {d : PyData}, Dp K H v d → TyX K H v (.type (tyName d))
  | _, _, .non => .base .non
  | _, _, .bl b => .base (.bl b)
  | _, _, .int i => .base (.int i)
  | _, _, .str x => .base (.str x)
  | _, _, .lst h _ => ty_lst h
  | _, _, .tup h _ => ty_tup h
theorem isi_dp {K : PySem.W.Frag} {H : Hp} {Q : VK} {v : V} {d : PyData} {U : String} {b : Bool} (h : Dp K H v d) (e : kitB (tyName d) U = some b) (q : Q (.bl b) H) : RIs K [v, .ty U] H Q := isi_of (ty_dp h) e q
/-! ### the rules with K told (within a comprehension's block) -/
section
variable {X : Cx} {K : PySem.W.Frag}
theorem kix_list (h : X.K = K) : IxR X (rIxL K) := by subst h; exact ix_list
theorem kix_tup (h : X.K = K) : IxR X (rIxT K) := by subst h; exact ix_tup
theorem ksl_list (h : X.K = K) : SlR X (rSlL K) := by subst h; exact sl_list
theorem ksl_tup (h : X.K = K) : SlR X (rSlT K) := by subst h; exact sl_tup
theorem kcall_isiS (h : X.K = K) : CallR X (.builtin "isinstance") (RIs K) := by subst h; exact call_isiS
theorem kop_eqD (h : X.K = K) (hu : X.A.units + 64 < cLine) : OpR X (compareOp .Eq) (rEqD K) := by subst h; exact op_eqD hu
theorem kop_neD (h : X.K = K) (hu : X.A.units + 64 < cLine) : OpR X (compareOp .NotEq) (rNeD K) := by subst h; exact op_neD hu
theorem kop_in_seq (h : X.K = K) : OpR X (compareOp .In) (rIn K false) := by subst h; exact op_in_seq
theorem kop_notIn_seq (h : X.K = K) : OpR X (compareOp .NotIn) (rIn K true) := by subst h; exact op_notIn_seq
theorem kcall_len_seq (h : X.K = K) : CallR X (.builtin "len") (fun xs H Q => ∃ p ys, xs = [.ref p] ∧ (SqL K H p ys ∨ SqT K H p ys) ∧ Q (.int ys.length) H) := by subst h; exact call_len_seq
theorem kcall_tuple_of (h : X.K = K) : CallR X (.type "tuple") (fun xs H Q => ∃ p ys, xs = [.ref p] ∧ ((SqL K H p ys ∧ ∀ l, H l = none → Q (.ref l) (upd H l (.tup ys))) ∨ (SqT K H p ys ∧ Q (.ref p) H))) := by subst h; exact call_tuple_of
theorem kcall_list_of (h : X.K = K) : CallR X (.type "list") (fun xs H Q => ∃ p ys, xs = [.ref p] ∧ (SqL K H p ys ∨ SqT K H p ys) ∧ ∀ l, H l = none → Q (.ref l) (upd H l (.lst ys))) := by subst h; exact call_list_of
theorem kcr_sum (h : X.K = K) (hc : X.calm = true) : CallR X (.builtin "sum") (rSum K) := by subst h; exact cr_sum hc
theorem kcr_min (h : X.K = K) (hc : X.calm = true) : CallR X (.builtin "min") (rMin K) := by subst h; exact cr_min hc
theorem kcr_max (h : X.K = K) (hc : X.calm = true) : CallR X (.builtin "max") (rMax K) := by subst h; exact cr_max hc
theorem kcr_all (h : X.K = K) (hc : X.calm = true) : CallR X (.builtin "all") (rAll K) := by subst h; exact cr_all hc
theorem kcr_any (h : X.K = K) (hc : X.calm = true) : CallR X (.builtin "any") (rAny K) := by subst h; exact cr_any hc
theorem kop_catT (h : X.K = K) : OpR X (binaryOp .Add) (rCatT K) := by subst h; exact op_catT
variable {tg l e : Expr} {tl ta : TE} {f : Str} {pos : Pos}
theorem kpi_list (h : X.K = K) (hl : PE X l tl) : PI X tg l (iList K tl) := by subst h; exact pi_list hl
theorem kpi_tup (h : X.K = K) (hl : PE X l tl) : PI X tg l (iTup K tl) := by subst h; exact pi_tup hl
theorem kpe_fld (h : X.K = K) (he : PE X e ta) (hb : attributeBase e f X.env (eval e X.env) = eval e X.env) : PE X (.Attribute e f pos) (tFld K ta f) := by subst h; exact pe_fld he hb
theorem kpg_tup {es : List Expr} {k : Nat} {t : TGs} {n : Nat} (h : X.K = K) (hc : X.calm = true) (hp : PGs X es t) (hn : (assignEach es X.env).length = n := by rfl) (hst : (assignEach es X.env).findIdx? (·.1) = none := by rfl) : PG X (.Tuple es k pos) (gTup K n t) := by subst h; exact pg_tup hc hp hn hst
end
/-- a while by a word W that falls; Ex: what holds behind it -/
theorem while_ex {c : TT} {tb : TS} {D : Ends} {σ : L2.St} {H : Hp} (W : Nat → L2.St → Hp → Prop) (Ex : L2.St → Hp → Prop) (h0 : ∃ m, W m σ H)
    (hs : ∀ m σ H, W m σ H → ∀ Z : L2.St → Hp → Prop, (∀ σ' H', Ex σ' H' → Z σ' H') → c σ H fun b H1 => if b = true then ∃ N : L2.St → Hp → Prop, (∀ σ' H', N σ' H' → ∃ m', m' < m ∧ W m' σ' H') ∧ tb { D with nx := N, ct := N, bk := Z } σ H1 else Z σ H1)
    (hx : ∀ σ H, Ex σ H → D.nx σ H) : tWhile c tb D σ H := ⟨W, h0, fun m σ H h => hs m σ H h D.nx hx⟩
/-! ### comprehensions by a word over what is made -/
theorem walk_zipT {K : PySem.W.Frag} {a b : Addr} {xs ys : List V} {n : Nat} (hx : xs.length = n) (hy : ys.length = n) : Walk (RZ.ItzT K a b) n (fun H => SqT K H a xs ∧ SqT K H b ys) (YPair (fun i => xs[i]?) (fun i => ys[i]?)) where
  goes := fun i H hi h => ⟨xs, ys, _, _, h.1, h.2, List.getElem?_eq_getElem (by omega), List.getElem?_eq_getElem (by omega)⟩
  stops := fun H h => ⟨xs, ys, h.1, h.2, .inl (by omega)⟩
  yields := fun i H x H' _ h hy => by
    obtain ⟨T, y, z, rfl, hT, rfl, e1, e2⟩ := hy
    exact ⟨T, y, z, rfl, hT, rfl, e1 xs h.1, e2 ys h.2⟩
inductive Ers {α : Type} (Er : Hp → V → α → Prop) (H : Hp) : List V → List α → Prop
  | nil : Ers Er H [] []
  | cons {v : V} {a : α} {vs : List V} {l : List α} : Er H v a → Ers Er H vs l → Ers Er H (v :: vs) (a :: l)
section
variable {α : Type} {Er : Hp → V → α → Prop} {H H' : Hp}
theorem Ers.len : ∀ {vs : List V} {l : List α}, Ers Er H vs l → vs.length = l.length
  | _, _, .nil => rfl
  | _, _, .cons _ t => by rw [List.length_cons, List.length_cons, t.len]
theorem Ers.mono (m : ∀ y a, Er H y a → Er H' y a) : ∀ {vs : List V} {l : List α}, Ers Er H vs l → Ers Er H' vs l
  | _, _, .nil => .nil
  | _, _, .cons h t => .cons (m _ _ h) (t.mono m)
theorem Ers.mono' {Er' : Hp → V → α → Prop} (m : ∀ y a, Er H y a → Er' H y a) : ∀ {vs : List V} {l : List α}, Ers Er H vs l → Ers Er' H vs l
  | _, _, .nil => .nil
  | _, _, .cons h t => .cons (m _ _ h) (t.mono' m)
theorem Ers.snoc {y : V} {a : α} (h : Er H y a) : ∀ {vs : List V} {l : List α}, Ers Er H vs l → Ers Er H (vs ++ [y]) (l ++ [a])
  | _, _, .nil => .cons h .nil
  | _, _, .cons h' t => .cons h' (t.snoc h)
theorem Ers.app : ∀ {vs ws : List V} {l m : List α}, Ers Er H vs l → Ers Er H ws m → Ers Er H (vs ++ ws) (l ++ m)
  | _, _, _, _, .nil, h => h
  | _, _, _, _, .cons h t, u => .cons h (t.app u)
theorem Ers.get : ∀ {vs : List V} {l : List α} {i : Nat} {v : V}, Ers Er H vs l → vs[i]? = some v → ∃ a, l[i]? = some a ∧ Er H v a
  | _, _, _, _, .nil, h => by simp at h
  | _, _, 0, _, .cons h _, e => by simp at e; subst e; exact ⟨_, rfl, h⟩
  | _, _, i + 1, v, .cons _ t, e => by
    obtain ⟨d, h1, h2⟩ := Ers.get (i := i) (v := v) t (by simpa using e)
    exact ⟨d, by simpa using h1, h2⟩
/-- ints -/
def ErI : Hp → V → Int → Prop := fun _ y a => y = .int a
theorem Ers.ints {H : Hp} : ∀ {vs : List V} {l : List Int}, Ers ErI H vs l → vs = l.map V.int
  | _, _, .nil => rfl
  | _, _, .cons h t => by rw [List.map_cons, ← t.ints, show _ = V.int _ from h]
end
/-- [elt for .. if ..]: Rl how the heap goes on, Er what an item is, P the word over the items made so far -/
theorem lc_inv {α : Type} {J : It} {n : Nat} {G : Hp → Prop} {Y : Nat → Hp → V → Hp → Prop} (w : Walk J n G Y) (hn : n ≤ 100000) {g : TG} {tt : TT} {te : TE} {vs : List Nat} {σ : L2.St} {H1 : Hp} {D : Addr} {Qd : Hp → Prop}
    (Rl : Hp → Hp → Prop) (rr : ∀ H, Rl H H) (rt : ∀ H H' H'', Rl H H' → Rl H' H'' → Rl H H'') (rp : ∀ H o, Rl H1 H → Rl H1 (upd H D o)) (rk : ∀ H H' o, Rl H1 H → Rl H H' → H D = some o → H' D = some o)
    (Er : Hp → V → α → Prop) (em : ∀ H H' y a, Rl H1 H → Rl H H' → Er H y a → Er H' y a) (ep : ∀ H o y a, Rl H1 H → Er H y a → Er (upd H D o) y a)
    (P : Nat → List α → Prop) (h0 : P 0 []) (hG : ∀ H, Rl H1 H → G H)
    (hs : ∀ i x H H' l, i < n → Rl H1 H → (∃ acc, H D = some (.lst acc)) → P i l → Y i H x H' → ∀ (A : V → Hp → Prop) (B : Hp → Prop), (∀ y a H4, Rl H H4 → Er H4 y a → P (i + 1) (l ++ [a]) → A y H4) → (∀ H3, Rl H H3 → P (i + 1) l → B H3) →
      g x (wipe σ vs) H' fun σ2 H2 => wipe σ2 vs = wipe σ vs ∧ tt σ2 H2 fun b H3 => if b = true then te σ2 H3 A else B H3)
    (hd : ∀ H' us l, Rl H1 H' → H' D = some (.lst us) → Ers Er H' us l → P n l → Qd H') :
    ∃ W : Nat → Nat → Hp → Prop, (∃ m, W 0 m (upd H1 D (.lst []))) ∧ ∀ i m H, W i m H → (J.stop i H ∧ Qd H) ∨ (J.go i H ∧ ∃ Nx : Hp → Prop, (∀ H', Nx H' → ∃ m', m' < m ∧ W (i + 1) m' H') ∧ ∀ x H', J.yld i H x H' → g x (wipe σ vs) H' fun σ2 H2 => wipe σ2 vs = wipe σ vs ∧ tt σ2 H2 fun b H3 => if b = true then te σ2 H3 fun y H4 => ∃ acc, H4 D = some (.lst acc) ∧ acc.length < sizeLine ∧ Nx (upd H4 D (.lst (acc ++ [y]))) else Nx H3) := by
  refine lc_it w (fun i H => Rl H1 H ∧ ∃ us l, H D = some (.lst us) ∧ Ers Er H us l ∧ P i l ∧ l.length ≤ i) ⟨rp _ _ (rr _), [], [], upd_same, .nil, h0, Nat.le_refl _⟩ (fun i H _ h => hG H h.1) ?_ ?_
  · rintro i x H H' hi ⟨r, us, l, hD, hE, hP, hl⟩ hy
    refine hs i x H H' l hi r ⟨_, hD⟩ hP hy _ _ (fun y a H4 r4 e4 p4 => ?_) (fun H3 r3 p3 => ?_)
    · have r14 := rt _ _ _ r r4
      refine ⟨us, rk _ _ _ r r4 hD, ?_, rp _ _ r14, us ++ [y], l ++ [a], upd_same, ?_, p4, by rw [List.length_append]; exact Nat.succ_le_succ hl⟩
      · rw [hE.len]
        exact Nat.lt_of_le_of_lt (Nat.le_trans hl (Nat.le_trans (Nat.le_of_lt hi) hn)) (by decide)
      · exact (((hE.mono fun y a h => em _ _ y a r r4 h).snoc e4).mono fun y a h => ep _ _ y a r14 h)
    · exact ⟨rt _ _ _ r r3, us, l, rk _ _ _ r r3 hD, hE.mono fun y a h => em _ _ y a r r3 h, p3, Nat.le_succ_of_le hl⟩
  · rintro H ⟨r, us, l, hD, hE, hP, _⟩
    exact hd H us l r hD hE hP
theorem t_yes {σ : L2.St} {H : Hp} {P1 P2 : Hp → Prop} (h : P1 H) : tYes σ H (fun b H3 => if b = true then P1 H3 else P2 H3) := by
  show (if true = true then P1 H else P2 H)
  rw [if_pos rfl]
  exact h
/-- the same where the heap only grows -/
theorem lc_same {α : Type} {J : It} {n : Nat} {G : Hp → Prop} {Y : Nat → Hp → V → Hp → Prop} (w : Walk J n G Y) (hn : n ≤ 100000) {g : TG} {tt : TT} {te : TE} {vs : List Nat} {σ : L2.St} {H1 : Hp} {D : Addr} {Qd : Hp → Prop} (hD : H1 D = none)
    (Er : Hp → V → α → Prop) (em : ∀ H H' y a, Same H1 H → Same H H' → Er H y a → Er H' y a) (ep : ∀ H o y a, Same H1 H → Er H y a → Er (upd H D o) y a)
    (P : Nat → List α → Prop) (h0 : P 0 []) (hG : ∀ H, Same H1 H → G H)
    (hs : ∀ i x H H' l, i < n → Same H1 H → (∃ acc, H D = some (.lst acc)) → P i l → Y i H x H' → ∀ (A : V → Hp → Prop) (B : Hp → Prop), (∀ y a H4, Same H H4 → Er H4 y a → P (i + 1) (l ++ [a]) → A y H4) → (∀ H3, Same H H3 → P (i + 1) l → B H3) →
      g x (wipe σ vs) H' fun σ2 H2 => wipe σ2 vs = wipe σ vs ∧ tt σ2 H2 fun b H3 => if b = true then te σ2 H3 A else B H3)
    (hd : ∀ H' us l, Same H1 H' → H' D = some (.lst us) → Ers Er H' us l → P n l → Qd H') :
    ∃ W : Nat → Nat → Hp → Prop, (∃ m, W 0 m (upd H1 D (.lst []))) ∧ ∀ i m H, W i m H → (J.stop i H ∧ Qd H) ∨ (J.go i H ∧ ∃ Nx : Hp → Prop, (∀ H', Nx H' → ∃ m', m' < m ∧ W (i + 1) m' H') ∧ ∀ x H', J.yld i H x H' → g x (wipe σ vs) H' fun σ2 H2 => wipe σ2 vs = wipe σ vs ∧ tt σ2 H2 fun b H3 => if b = true then te σ2 H3 fun y H4 => ∃ acc, H4 D = some (.lst acc) ∧ acc.length < sizeLine ∧ Nx (upd H4 D (.lst (acc ++ [y]))) else Nx H3) :=
  lc_inv w hn Same Same.refl (fun _ _ _ a b => a.trans b) (fun H o h => same_mut h hD) (fun _ _ o _ h e => h _ _ e) Er em ep P h0 hG hs hd
/-! ### max, min of a tuple of ints, of three ints -/
theorem hl_lay_ints : ∀ ns : List Int, PyData.canLayAll0 (ns.map PyData.int) = true
  | [] => by simp [PyData.canLayAll0]
  | n :: r => by simp [PyData.canLayAll0, PyData.canLay0, hl_lay_ints r]
theorem hl_depth_ints : ∀ ns : List Int, PyData.depthAll (ns.map PyData.int) = 0
  | [] => by simp [PyData.depthAll]
  | n :: r => by
    have h := hl_depth_ints r
    simp only [List.map_cons, PyData.depthAll, PyData.depth, h]
    rfl
def rMaxT (K : PySem.W.Frag) : List V → Hp → VK → Prop := fun vs H Q => ∃ (a : Addr) (n : Int) (ns : List Int), vs = [V.ref a] ∧ SqT K H a ((n :: ns).map V.int) ∧ Q (.int (ns.foldl max n)) H
def rMinT (K : PySem.W.Frag) : List V → Hp → VK → Prop := fun vs H Q => ∃ (a : Addr) (n : Int) (ns : List Int), vs = [V.ref a] ∧ SqT K H a ((n :: ns).map V.int) ∧ Q (.int (ns.foldl min n)) H
theorem alike_ints (ns : List Int) : PySem.W.AlikeAll (ns.map PyData.int) := by
  refine ⟨fun x hx y hy => ?_, fun x hx => ?_⟩
  · obtain ⟨a, _, rfl⟩ := List.mem_map.mp hx
    obtain ⟨b, _, rfl⟩ := List.mem_map.mp hy
    rfl
  · obtain ⟨a, _, rfl⟩ := List.mem_map.mp hx
    exact fun z => nomatch z
theorem cr_maxT {X : Cx} (hc : X.calm = true) (hu : X.A.units + 65 < cLine) : CallR X (.builtin "max") (rMaxT X.K) := by
  intro pins s σ H vs us Q I r h
  obtain ⟨a, n, ns, rfl, hs, q⟩ := h
  obtain ⟨its, rv, hl, _⟩ := I.tuple hs
  rw [Vals.ref1 r]
  obtain ⟨as, hr⟩ := Dp.readsAll I _ _ its (dps_ints (n :: ns)) rv
  refine PySem.W.max_tuple_data (x := .int n) (xs := ns.map .int) (I.ok.hd hc) hl hr (alike_ints (n :: ns)) (by rw [show PyData.depthAll (PyData.int n :: ns.map .int) = 0 from hl_depth_ints (n :: ns)]; omega) fun i v h' tk bs _ hv hk => ?_
  rw [PySem.W.maxD_ints] at hv
  cases hv
  exact ⟨.int _, H, I.kept hk, ⟨_, rfl⟩, q⟩
theorem cr_minT {X : Cx} (hc : X.calm = true) (hu : X.A.units + 65 < cLine) : CallR X (.builtin "min") (rMinT X.K) := by
  intro pins s σ H vs us Q I r h
  obtain ⟨a, n, ns, rfl, hs, q⟩ := h
  obtain ⟨its, rv, hl, _⟩ := I.tuple hs
  rw [Vals.ref1 r]
  obtain ⟨as, hr⟩ := Dp.readsAll I _ _ its (dps_ints (n :: ns)) rv
  refine PySem.W.min_tuple_data (x := .int n) (xs := ns.map .int) (I.ok.hd hc) hl hr (alike_ints (n :: ns)) (by rw [show PyData.depthAll (PyData.int n :: ns.map .int) = 0 from hl_depth_ints (n :: ns)]; omega) fun i v h' tk bs _ hv hk => ?_
  rw [PySem.W.minD_ints] at hv
  cases hv
  exact ⟨.int _, H, I.kept hk, ⟨_, rfl⟩, q⟩
theorem kcr_minT {X : Cx} {K : PySem.W.Frag} (h : X.K = K) (hc : X.calm = true) (hu : X.A.units + 65 < cLine) : CallR X (.builtin "min") (rMinT K) := by subst h; exact cr_minT hc hu
theorem nuMax2_int (i j : Int) : nuMax2 (.int i) (.int j) = some (.int (if j > i then j else i)) := by
  show some (if decide (i < j) = true then V.int j else V.int i) = _
  by_cases h : i < j
  · rw [decide_eq_true h, if_pos rfl, if_pos h]
  · rw [decide_eq_false h, if_neg Bool.false_ne_true, if_neg h]
theorem nuMin2_int (i j : Int) : nuMin2 (.int i) (.int j) = some (.int (if j < i then j else i)) := by
  show some (if decide (j < i) = true then V.int j else V.int i) = _
  by_cases h : j < i
  · rw [decide_eq_true h, if_pos rfl, if_pos h]
  · rw [decide_eq_false h, if_neg Bool.false_ne_true, if_neg h]
def rMax3 : List V → Hp → VK → Prop := fun xs H Q => ∃ i j l : Int, xs = [.int i, .int j, .int l] ∧ Q (.int (if l > (if j > i then j else i) then l else (if j > i then j else i))) H
def rMin3 : List V → Hp → VK → Prop := fun xs H Q => ∃ i j l : Int, xs = [.int i, .int j, .int l] ∧ Q (.int (if l < (if j < i then j else i) then l else (if j < i then j else i))) H
theorem call_max3I {X : Cx} (hc : X.calm = true) : CallR X (.builtin "max") rMax3 := by
  intro pins s σ H xs us Q I r h
  obtain ⟨i, j, l, rfl, q⟩ := h
  refine call_max3Nu hc pins s σ H _ us Q I r ⟨_, _, _, _, rfl, ?_, q⟩
  show (nuMax2 (.int i) (.int j)).bind (fun m => nuMax2 m (.int l)) = _
  rw [nuMax2_int]
  exact nuMax2_int _ _
theorem call_min3I {X : Cx} (hc : X.calm = true) : CallR X (.builtin "min") rMin3 := by
  intro pins s σ H xs us Q I r h
  obtain ⟨i, j, l, rfl, q⟩ := h
  refine call_min3Nu hc pins s σ H _ us Q I r ⟨_, _, _, _, rfl, ?_, q⟩
  show (nuMin2 (.int i) (.int j)).bind (fun m => nuMin2 m (.int l)) = _
  rw [nuMin2_int]
  exact nuMin2_int _ _
/-! ### data that a law's own comparison takes -/
def Sc (C : PyData → Prop) (d : PyData) : Prop := d = .none ∨ (∃ b, d = .bool b) ∨ (∃ i, d = .int i) ∨ ∃ ds, d = .tuple ds ∧ ds.length ≤ 10000 ∧ ∀ x ∈ ds, C x
def ScF : PyData → Prop := fun _ => False
/-- equal data are told as equal -/
def spLike (K : PySem.W.Frag) (C : PyData → Prop) : Sp := fun vs H Q _ => ∃ v u d, vs = [v, u] ∧ Dp K H v d ∧ Dp K H u d ∧ C d ∧ ∀ H', Same H H' → Q (.bl true) H'
theorem spLike_no {P : Program} {w : World} {K : PySem.W.Frag} {mg : Str → Option Value} {base : Heap} {k : Nat} {f : Addr} {fd : FuncData} {ps : List Str} : FnOk P w K mg base CX0 k f fd ps (spLike K ScF) :=
  ⟨fun _ _ _ _ ⟨_, _, _, _, _, _, h, _⟩ => h.elim, fun _ _ _ _ _ _ _ _ _ _ _ _ _ ⟨_, _, _, _, _, _, h, _⟩ => h.elim⟩
/-- and, or of values whose answer is a bool -/
theorem and_rd {c : Bool} {A B : Prop} (h1 : c = true → A) (h2 : c = false → B) : ∃ c', V.bl c = .bl c' ∧ if c' = true then A else B := ⟨c, rfl, by
  cases c with
  | true => exact iteT (h1 rfl)
  | false => exact iteF (h2 rfl)⟩
theorem if_b {c : Bool} {A B : Prop} (h1 : c = true → A) (h2 : c = false → B) : if c = true then A else B := by
  cases c with
  | true => exact iteT (h1 rfl)
  | false => exact iteF (h2 rfl)
theorem if_n {c : Bool} {A B : Prop} (h1 : c = false → A) (h2 : c = true → B) : if (!c) = true then A else B := by
  cases c with
  | true => exact iteF (h2 rfl)
  | false => exact iteT (h1 rfl)
/-! ### a cut: what holds behind an expression, a test, a statement, told once -/
section
variable {X : Cx} {e : Expr} {te : TE} {tt : TT} {ts : TS} {sts : Stmt}
def cE (te : TE) : TE := fun σ H Q => ∃ φ : VK, te σ H φ ∧ ∀ v H', φ v H' → Q v H'
theorem pe_cut (h : PE X e te) : PE X e (cE te) := ⟨fun pins s σ H Q I ⟨φ, h1, h2⟩ => thn (h.run pins s σ H φ I h1) fun u s' ⟨v, H', I', r, q⟩ => ⟨v, H', I', r, h2 _ _ q⟩⟩
def cT (tt : TT) : TT := fun σ H Q => ∃ φ : Bool → Hp → Prop, tt σ H φ ∧ ∀ b H', φ b H' → Q b H'
theorem pt_cut (h : PT X e tt) : PT X e (cT tt) := ⟨fun pins s σ H Q I ⟨φ, h1, h2⟩ => thn (h.run pins s σ H φ I h1) fun u s' ⟨H', I', q⟩ => ⟨H', I', h2 _ _ q⟩⟩
def cS (ts : TS) : TS := fun D σ H => ∃ φ : L2.St → Hp → Prop, ts { D with nx := φ } σ H ∧ ∀ σ' H', φ σ' H' → D.nx σ' H'
theorem ps_cut (h : PS X sts ts) : PS X sts (cS ts) := ⟨fun pins s σ H D I ⟨φ, h1, h2⟩ => thn (h.run pins s σ H { D with nx := φ } I h1) fun f s' q => by
  cases f with
  | next =>
    obtain ⟨σ', H', I', q⟩ := q
    exact ⟨σ', H', I', h2 _ _ q⟩
  | _ => exact q⟩
end
end Hl

namespace Hl
open PySem PySem.Spec PyProof.Rows L2
section
variable {prog : Program} {w : World} {A : Around} {E : Value → Shared → Prop} {s : Shared}
theorem collect_tup {l : Addr} {vs : List Value} {Q : List Value → Shared → Prop} (hl : IsTup s.heap l vs.toArray)
    (h : Q vs { s with heap := (s.heap.push (seqObj "list" #[] 0)).update s.heap.objs.size (Obj.mapSeq (· ++ vs.toArray)) }) (hsz : vs.length ≤ sizeLine) :
    wpAny (model prog w) A (collect (.ref l)) Q E s := by
  obtain ⟨o, ho, hc, n, hd⟩ := id hl
  unfold collect
  refine wpAny_bind (wpAny_runValue (codeAny_builtin entry_proto_collect' ?_))
  show wpAny _ _ (do again (.builtin "list.__iadd__" ⟨[← newList [], .ref l], []⟩)) _ _ s
  refine wpAny_bind (wpAny_newList (wpAny_pure ⟨Code.quiet_builtin _ (by decide +kernel), codeAny_builtin entry_list_iadd' ?_⟩))
  show wpAny _ _ (Builtin.List.listExtendWith (.ref s.heap.objs.size) (.ref l) (.ref s.heap.objs.size)) _ _ { s with heap := s.heap.push (seqObj "list" #[] 0) }
  unfold Builtin.List.listExtendWith
  have ho' : (s.heap.push (seqObj "list" #[] 0)).get? l = some o := Heap.get?_push_of_some _ ho
  refine wpAny_bind (wpAny_typeOf (T := "tuple") ⟨o, ho', hc⟩ ?_)
  have ht : (Value.type "tuple" == Value.type "tuple") = true := by rfl
  rw [if_pos (by rw [ht]; simp)]
  refine wpAny_bind (listItems_at ho' hd ?_)
  refine wpAny_bind (listItems_at (xs := #[]) (n := 0) (Heap.get?_push_size _ rfl) rfl ?_)
  rw [if_neg (by simp)]
  refine wpAny_bind (listUpdate_at (xs := #[]) (n := 0) (Heap.get?_push_size _ rfl) rfl ?_ (Nat.zero_le _) (by show (#[] ++ vs.toArray).size ≤ sizeLine + 1; simp only [Array.size_append, List.size_toArray, List.length_nil]; omega))
  refine wpAny_pure ?_
  show wpAny (model prog w) A (do
      let o ← load s.heap.objs.size
      match o.data with
      | .seq xs _ => pure xs.toList
      | _ => unsupported "internal:collect") Q E { s with heap := (s.heap.push (seqObj "list" #[] 0)).update s.heap.objs.size (Obj.mapSeq (· ++ vs.toArray)) }
  refine wpAny_bind (wpAny_load (get?_update_seq (Heap.get?_push_size _ rfl) _) ?_)
  show wpAny _ _ (pure ((#[] : Array Value) ++ vs.toArray).toList) Q E _
  rw [show ((#[] : Array Value) ++ vs.toArray).toList = vs by simp]
  exact wpAny_pure h
open SrtO in
theorem sorted_ordT {l : Addr} {vs : List Value} {ltv : Value → Value → Bool} {Q : Value → Shared → Prop} (O : Swo ltv) (hl : IsTup s.heap l vs.toArray) (hz : vs.length ≤ sizeLine)
    (hS : 2 ≤ vs.length → ∀ (h₁ : Heap) (a : Addr), h₁.get? a = some (seqObj "list" vs.toArray 0) → (∀ b o, s.heap.get? b = some o → b ≠ a ∧ h₁.get? b = some o) → SortableO prog w A.in1.in1 { s with heap := h₁ } a vs ltv)
    (h : ∀ out : List Value, Srtd ltv out → Stb ltv out vs → Q (.ref (s.heap.objs.size + 1)) { s with heap := sortedAll s.heap vs out.toArray }) :
    wpAny (model prog w) A (call (.builtin "sorted") [.ref l]) Q E s := by
  refine Calls.call_function_entry kind_sorted plain_sorted entry_sorted (args_sorted1 _) ?_
  unfold Builtin.«sorted»
  refine wpAny_bind (m := checkCount "sorted" 1 1 _) (wpAny_pure ?_)
  refine wpAny_bind (collect_tup hl ?_ hz)
  refine wpAny_bind (wpAny_newList ?_ hz)
  have hsz : ((s.heap.push (seqObj "list" #[] 0)).update s.heap.objs.size (Obj.mapSeq (· ++ vs.toArray))).objs.size = s.heap.objs.size + 1 := by
    rw [Heap.size_update, size_push']
  have hoL : (((s.heap.push (seqObj "list" #[] 0)).update s.heap.objs.size (Obj.mapSeq (· ++ vs.toArray))).push (seqObj "list" vs.toArray 0)).get? (s.heap.objs.size + 1) = some (seqObj "list" vs.toArray 0) := by
    rw [← hsz]; exact Heap.get?_push_size _ rfl
  have keep : ∀ b o, s.heap.get? b = some o → b ≠ s.heap.objs.size + 1 ∧ (((s.heap.push (seqObj "list" #[] 0)).update s.heap.objs.size (Obj.mapSeq (· ++ vs.toArray))).push (seqObj "list" vs.toArray 0)).get? b = some o := fun b o q => by
    have hlt : b < s.heap.objs.size := Heap.lt_size q
    refine ⟨Nat.ne_of_lt (Nat.lt_succ_of_lt hlt), Heap.get?_push_of_some _ ?_⟩
    rw [Heap.get?_update_ne _ _ _ _ (Nat.ne_of_lt hlt)]
    exact Heap.get?_push_of_some _ q
  show wpAny _ _ _ _ _ { s with heap := ((s.heap.push (seqObj "list" #[] 0)).update s.heap.objs.size (Obj.mapSeq (· ++ vs.toArray))).push (seqObj "list" vs.toArray 0) }
  rw [hsz]
  refine wpAny_bind (wpAny_holding (wpAny_call_entry slot_list_sort ⟨_, hoL, rfl⟩ entry_list_sort (list_sort_ord O hoL hz (fun h2 => hS h2 _ _ hoL keep) fun out hs hb => ⟨_, rfl, ?_⟩) (args_list_sort _)))
  exact wpAny_pure ⟨_, rfl, h out hs hb⟩
end
/-- sorted(t), a tuple of ints -/
def rSortedTI (K : PySem.W.Frag) : List V → Hp → VK → Prop := fun vs H Q => ∃ (a : Addr) (ns : List Int), vs = [V.ref a] ∧ SqT K H a (ns.map V.int) ∧
  ∀ (ns' : List Int) (p : Addr), ns'.Perm ns → ns'.Pairwise (· ≤ ·) → H p = none → Q (.ref p) (upd H p (.lst (ns'.map V.int)))
theorem cr_sortedTI {X : Cx} : CallR X (.builtin "sorted") (rSortedTI X.K) := by
  intro pins s σ H vs us Q I r h
  obtain ⟨a, ns, rfl, hs, q⟩ := h
  obtain ⟨its, rv, hl, hz⟩ := I.tuple hs
  rw [Vals.ref1 r]
  have hi := rv.ints
  refine sorted_ordT SrtO.swo_int hl (by rw [← rv.length]; exact hz) (fun h2 h₁ a' _ _ => SrtO.ints_sortable hi h2) fun out h1 h2 => ?_
  obtain ⟨k1, k2, k3⟩ := SrtO.ints_out hi h1 h2
  obtain ⟨ep, he'⟩ := PyProof.Rows.sortedAll_at s.heap its out.toArray
  have hlen : ((out.map SrtO.iv).map V.int).length ≤ sizeLine := by
    rw [List.length_map, k2.length_eq]
    rw [List.length_map] at hz
    exact hz
  exact ⟨.ref _, upd H (s.heap.objs.size + 1) (.lst ((out.map SrtO.iv).map V.int)), I.laid (t' := s.toks) (fun _ _ => PyProof.Rows.sortedAll_old) (Nat.le_succ _) ⟨hlen, out, ep, vals_of_ints k1, he'⟩, rfl, q _ _ k2 k3 (I.hok.fresh (Nat.le_succ _))⟩
section
variable {P : Program} {w : World} {A : Around} {E : Value → Shared → Prop} {s : Shared}
set_option maxHeartbeats 3200000 in
theorem call_set_lstI {l : Addr} {items : Array Value} (ns : List Int) {Q : Value → Shared → Prop} (hh : A.handled = none) (hl : s.heap.IsList l items) (hit : IntsAre items.toList ns) (hb : ns.length + 1 < scanBound)
    (h : ∀ (h' : Heap) (tk c : Nat), SetR w h' s.heap.objs.size (fun j => decide (j ∈ ns)) c → c ≤ ns.length → (∀ b o, s.heap.get? b = some o → h'.get? b = some o) → Q (.ref s.heap.objs.size) { s with heap := h', toks := tk }) :
    wpAny (model P w) A (call (.type "set") [.ref l]) Q E s := by
  have hisz : items.size = ns.length := by
    have q := IntsAre.length hit
    rw [Array.length_toList] at q
    exact q
  obtain ⟨c, tl, hmro⟩ := F.called_set.mro
  have hmade := F.called_set.made
  have hsub := F.called_set.sub
  refine wpAny_call (codeAny_of_tree ?_)
  show wpAny _ _ (callAny (.type "set") _) _ _ _
  refine wpAny_pure ⟨Code.quiet_builtin _ (by decide +kernel), codeAny_builtin F.entry_type_call ?_⟩
  rw [Around.under_plain (weight_type_call_type "set" [.ref l] []) rfl]
  have h1 := F.called_set.notType
  have h2 := F.called_set.canCreate
  have hct := F.typeCall_set_1 (.ref l)
  repeat (any_goals (first | assumption | wp_step))

  refine codeAny_mono (code_set_led1 (.ref l) (E := E) (Q₁ := fun obj s₁ => obj = .ref s.heap.objs.size ∧ s₁ = { s with heap := s.heap.push { cls := .type "set", dict := none, data := .set #[] 0 (.fresh 0 0 (!w.params.followText "set-order")) } }) ⟨rfl, rfl⟩) fun r s₁ hr => ?_
  cases r with
  | error e => exact hr
  | ok fl =>
    cases fl with
    | ret obj =>
      obtain ⟨rfl, rfl⟩ := hr
      have hS : (s.heap.push { cls := .type "set", dict := none, data := .set #[] 0 (.fresh 0 0 (!w.params.followText "set-order")) }).get? s.heap.objs.size = some { cls := .type "set", dict := none, data := .set #[] 0 (.fresh 0 0 (!w.params.followText "set-order")) } := Heap.get?_push_size _ rfl
      have hT : Shared.TypeIs { s with heap := s.heap.push { cls := .type "set", dict := none, data := .set #[] 0 (.fresh 0 0 (!w.params.followText "set-order")) } } (.ref s.heap.objs.size) "set" := ⟨_, hS, rfl⟩
      have hli := F.called_set.init.lookup
      have hbi := F.called_set.init.bind (.ref s.heap.objs.size)
      repeat (any_goals (first | assumption | wp_step))

      refine codeAny_mono (codeAny_call_builtin (R := wants (fun r s₂ => r = .none ∧ ∃ h' tk c, s₂ = { s with heap := h', toks := tk } ∧ SetR w h' s.heap.objs.size (fun j => decide (j ∈ ns)) c ∧ c ≤ ns.length ∧
          (∀ b o, s.heap.get? b = some o → h'.get? b = some o)) E) F.called_set.init.plain F.entry_set_init (check_set_init_1 hT ?_)) fun r₂ s₂ hr₂ => ?_
      · obtain ⟨ol, hol, hcl, nl, hdl⟩ := hl
        obtain ⟨ocls, odict, odata, oslots⟩ := ol
        simp only at hcl hdl
        subst hcl; subst hdl
        have hol' : (s.heap.push { cls := .type "set", dict := none, data := .set #[] 0 (.fresh 0 0 (!w.params.followText "set-order")) }).get? l = some { cls := .type "list", dict := odict, data := .seq items nl, slots := oslots } := Heap.get?_push_of_some _ hol
        have hsls := F.sub_list_set
        have hslf := F.sub_list_frozenset
        have hne : (Value.type "list" == Value.type "dict") = false := by decide
        have hl1 : (s.heap.push { cls := .type "set", dict := none, data := .set #[] 0 (.fresh 0 0 (!w.params.followText "set-order")) }).IsList l items := ⟨_, hol', rfl, nl, rfl⟩
        unfold Builtin.«set.__init__» noKeywords Builtin.Frozenset.updateFrom
        generalize hPI : pyIter = PI
        wp_walk
        subst hPI

        refine wpAny_pyIter_list hl1 ?_
        refine wpAny_bind (wpAny_runValue ?_)
        have hlS : l < s.heap.objs.size := Heap.lt_size hol
        have hh3 : A.in1.in1.in1.handled = none := by simp [hh]
        have hz1 : (s.heap.push { cls := .type "set", dict := none, data := .set #[] 0 (.fresh 0 0 (!w.params.followText "set-order")) }).objs.size = s.heap.objs.size + 1 := Heap.size_push ..
        have hneI : l ≠ (s.heap.push { cls := .type "set", dict := none, data := .set #[] 0 (.fresh 0 0 (!w.params.followText "set-order")) }).objs.size := by
          rw [Heap.size_push]; exact Nat.ne_of_lt (Nat.lt_succ_of_lt hlS)
        have hSf : s.heap.objs.size ∉ [(s.heap.push { cls := .type "set", dict := none, data := .set #[] 0 (.fresh 0 0 (!w.params.followText "set-order")) }).objs.size, l] := by
          rw [Heap.size_push]; simp only [List.mem_cons, List.mem_singleton, List.not_mem_nil, or_false, not_or]
          exact ⟨Nat.ne_of_lt (Nat.lt_succ_self _), Nat.ne_of_gt hlS⟩
        have hval : ∀ (i : Nat) (v : Value), items[i]? = some v → ∃ k t, ns[i]? = some k ∧ v = .int k t := fun i v hv => by
          have hi : i < ns.length := by rw [← hisz]; exact (Array.getElem?_eq_some_iff.mp hv).1
          obtain ⟨t, e⟩ := PyProof.Rows.IntsAre.int_at hit i v (by rw [Array.getElem?_toList]; exact hv)
          refine ⟨ns[i], t, List.getElem?_eq_getElem hi, ?_⟩
          rw [e, List.getD_eq_getElem?_getD, List.getElem?_eq_getElem hi] <;> rfl
        refine set_update_ints ((Walks.list hh3 _ l hneI items).toS) s.heap.objs.size
          hSf ns hisz hb hval (items.size - 0) 0 _ (by omega) (Nat.zero_le _)
          ⟨⟨_, Heap.get?_push_size _ rfl, rfl, rfl⟩, (hl1.push _)⟩ ?hS0 ?hR
        case hS0 =>
          have hget : ((s.heap.push { cls := .type "set", dict := none, data := .set #[] 0 (.fresh 0 0 (!w.params.followText "set-order")) }).push { cls := .type "list_iterator", data := .fields #[.ref l, .int 0 0] }).get? s.heap.objs.size
              = some { cls := .type "set", dict := none, data := .set #[] 0 (.fresh 0 0 (!w.params.followText "set-order")) } := Heap.get?_push_of_some _ hS
          exact ⟨0, Nat.le_refl 0, setR_new_at hget⟩
        case hR =>
          intro s' c' hm hc' hS'
          obtain ⟨h', g2, d', tk', os'⟩ := s'
          have eg : g2 = s.gens := hm.gens
          have ed : d' = s.drawn := hm.drawn
          have eo : os' = s.os := hm.os
          subst eg; subst ed; subst eo
          show wpAny _ _ _ _ _ _
          refine wpAny_pure ?_
          show wpAny _ _ (ret Value.none) _ _ _
          rw [hisz] at hc'
          refine wpAny_pure ⟨rfl, h', tk', c', rfl, hS', hc', fun b o e => ?_⟩
          have hb0 : b < s.heap.objs.size := Heap.lt_size e
          have hb1 : b ≠ s.heap.objs.size := Nat.ne_of_lt hb0
          have hb2 : b ≠ (s.heap.push { cls := .type "set", dict := none, data := .set #[] 0 (.fresh 0 0 (!w.params.followText "set-order")) }).objs.size := by
            rw [Heap.size_push]; exact Nat.ne_of_lt (Nat.lt_succ_of_lt hb0)
          exact hm.heap b o (by simp only [List.mem_cons, List.mem_singleton, List.not_mem_nil, or_false, not_or]; exact ⟨hb1, hb2⟩) (Heap.get?_push_of_some _ (Heap.get?_push_of_some _ e))

      · cases r₂ with
        | error e => exact hr₂
        | ok fl₂ =>
          cases fl₂ with
          | ret r =>
            obtain ⟨rfl, h', tk, c', rfl, hS', hc', hk'⟩ := hr₂
            repeat (any_goals (first | assumption | wp_step))
            exact h _ _ _ hS' hc' hk'
          | _ => exact hr₂.elim
    | _ => exact hr.elim
end
/-- set(t), set(l) of ints -/
def rSetI (K : PySem.W.Frag) (w : World) : List V → Hp → VK → Prop := fun vs H Q => ∃ (a : Addr) (ns : List Int), vs = [V.ref a] ∧ (SqT K H a (ns.map V.int) ∨ SqL K H a (ns.map V.int)) ∧ ns.length ≤ 1000 ∧
  ∀ (p : Addr) (c : Nat), H p = none → c ≤ ns.length → Q (.ref p) (upd H p (SetO w p (fun j => decide (j ∈ ns)) c))
theorem cr_setTI {X : Cx} (hc : X.calm = true) : CallR X (.type "set") (rSetI X.K X.w) := by
  intro pins s σ H vs us Q I r h
  obtain ⟨a, ns, rfl, hs, hn, q⟩ := h
  rw [Vals.ref1 r]
  have hf := I.hok.fresh (Nat.le_refl _)
  rcases hs with hs | hs
  · obtain ⟨its, rv, hl, hz⟩ := I.tuple hs
    refine call_set_tupI ns (I.ok.hd hc) (show s.heap.IsTuple a its.toArray from hl) (ints_of_vals rv) (by unfold scanBound; omega) fun h' tk c R hcn k => ?_
    exact ⟨.ref _, upd H s.heap.objs.size (SetO X.w s.heap.objs.size (fun j => decide (j ∈ ns)) c), I.laid (t' := tk) k (Nat.le_refl _) (setO_new R), rfl, q _ c hf hcn⟩
  · obtain ⟨its, rv, hl, hz⟩ := I.list hs
    refine call_set_lstI ns (I.ok.hd hc) hl.isList (ints_of_vals rv) (by unfold scanBound; omega) fun h' tk c R hcn k => ?_
    exact ⟨.ref _, upd H s.heap.objs.size (SetO X.w s.heap.objs.size (fun j => decide (j ∈ ns)) c), I.laid (t' := tk) k (Nat.le_refl _) (setO_new R), rfl, q _ c hf hcn⟩
end Hl

namespace Hl
open PySem PySem.Spec PyProof.Rows L2
/-- the first i lists, one behind the other -/
def preL (lst : Nat → List Value) : Nat → List Value
  | 0 => []
  | i + 1 => preL lst i ++ lst i
theorem preL_mono (lst : Nat → List Value) : ∀ {i n : Nat}, i ≤ n → (preL lst i).length ≤ (preL lst n).length
  | i, 0, h => by rw [Nat.le_zero.mp h] <;> exact Nat.le_refl _
  | i, n + 1, h => by
    rcases Nat.lt_or_eq_of_le h with h | h
    · exact Nat.le_trans (preL_mono lst (Nat.le_of_lt_succ h)) (by show _ ≤ (preL lst n ++ lst n).length; rw [List.length_append]; omega)
    · rw [h] <;> exact Nat.le_refl _
section
variable {prog : Program} {w : World} {A : Around} {R : Result → Shared → Prop} {I ax S : Addr} {items : Array Value}
theorem sum_loop_lists (hh : A.in1.handled = none) (hne : ax ≠ I) (hSI : S ≠ I) (hSa : S ≠ ax) (lst : Nat → List Value) (h0 : Heap) (hbd : (preL lst items.size).length ≤ sizeLine)
    (hv : ∀ i v, items[i]? = some v → ∃ b nb, v = .ref b ∧ b ≠ S ∧ b ≠ I ∧ IsL h0 b (lst i).toArray nb) :
    ∀ (k i : Nat) (s : Shared) (acc : Addr) (na c : Nat), items.size - i = k → i ≤ items.size → s.heap.IsListIter I ax i → s.heap.IsList ax items → s.heap.get? S = some { cls := .type "list", dict := none, data := .seq #[.ref acc] c, slots := #[] } →
      IsL s.heap acc (preL lst i).toArray na → acc ≠ S → acc ≠ I → (∀ b o, b ≠ S → b ≠ I → h0.get? b = some o → s.heap.get? b = some o) →
      (∀ h' acc' na' tk, (∀ b o, b ≠ S → b ≠ I → s.heap.get? b = some o → h'.get? b = some o) → IsL h' acc' (preL lst items.size).toArray na' → acc' ≠ S → acc' ≠ I → (i < items.size → I < acc') → (i = items.size → acc' = acc) → R (.ok (.ret (.ref acc'))) { s with heap := h', toks := tk }) →
      codeAny (model prog w) A (.builtin "sum.loop" ⟨[.ref I, .ref S, rawInt 2, rawInt 0], []⟩) R s := by
  intro k
  have W := Walks.list (prog := prog) (w := w) hh I ax hne items
  induction k with
  | zero =>
    intro i s acc na c hk hi hit hl hS ha h1 h2 hkp hR
    have hin : i = items.size := by omega
    subst hin
    refine codeAny_builtin F.entry_sum_loop ?_
    rw [Around.under_plainId F.plain_sum_loop _]
    show wpAny _ A.in1 (seqItems? (.ref S) >>= _) _ _ s
    refine wpAny_bind (wpAny_seqItems hS rfl ?_)
    show wpAny _ A.in1 (tryCatch (pyNext (.ref I)) _ >>= _) _ _ s
    refine wpAny_bind (wpAny_tryCatch (W.done s _ _ ⟨hit, hl⟩ fun h' tk hm => ?_))
    refine wpAny_pure (hR h' acc na tk (fun b o _ hbI e => hm b o (by simp [hbI]) e) ?_ h1 h2 (fun z => absurd z (Nat.lt_irrefl _)) fun _ => rfl)
    exact hm _ _ (by simp [h2]) ha
  | succ k ih =>
    intro i s acc na c hk hi hit hl hS ha h1 h2 hkp hR
    have hlt : i < items.size := by omega
    refine codeAny_builtin F.entry_sum_loop ?_
    rw [Around.under_plainId F.plain_sum_loop _]
    show wpAny _ A.in1 (seqItems? (.ref S) >>= _) _ _ s
    refine wpAny_bind (wpAny_seqItems hS rfl ?_)
    show wpAny _ A.in1 (tryCatch (pyNext (.ref I)) _ >>= _) _ _ s
    refine wpAny_bind (wpAny_tryCatch (W.item i s _ _ hlt ⟨hit, hl⟩ fun v h' tk hP hst' hm => ?_))
    obtain ⟨b, nb, rfl, hbS, hbI, hb⟩ := hv i v hP
    have hS' := hm S _ (by simp [hSI]) hS
    have ha' := hm acc _ (by simp [h2]) ha
    have hb' := hm b _ (by simp [hbI]) (hkp b _ hbS hbI hb)
    show wpAny _ A.in1 ((holding [Value.ref b] (binaryOp .Add (.ref acc) (.ref b))).attempt >>= _) _ _ _
    have hpre : (preL lst i).toArray.size + (lst i).toArray.size ≤ sizeLine := by
      have := preL_mono lst (i := i + 1) (n := items.size) (by omega)
      rw [show preL lst (i + 1) = preL lst i ++ lst i from rfl, List.length_append] at this
      rw [List.size_toArray, List.size_toArray]
      omega
    refine wpAny_bind (wpAny_attempt (wpAny_holding (PySem.P.add_list ha' hb' ?_ hpre)))
    show wpAny _ A.in1 (updateSeq S (fun _ => #[.ref h'.objs.size]) >>= _) _ _ _
    have hS'' : (h'.push ({ cls := .type "list", data := .seq ((preL lst i).toArray ++ (lst i).toArray) } : Obj)).get? S = some { cls := .type "list", dict := none, data := .seq #[.ref acc] c, slots := #[] } := Heap.get?_push_of_some _ hS'
    refine wpAny_bind (wpAny_updateSeq hS'' rfl ?_)
    have hS₂ := Heap.get?_update_self (Obj.mapSeq fun _ => #[Value.ref h'.objs.size]) hS'' rfl
    have lt : ∀ b o, h'.get? b = some o → b < h'.objs.size := fun b o e => Heap.lt_size e
    have keep : ∀ b o, b ≠ S → h'.get? b = some o → (((h'.push ({ cls := .type "list", data := .seq ((preL lst i).toArray ++ (lst i).toArray) } : Obj)).update S (Obj.mapSeq fun _ => #[Value.ref h'.objs.size])).update S (Obj.mapSeq fun _ => #[Value.ref h'.objs.size])).get? b = some o := fun b o hb e => by
      rw [Heap.get?_update_ne _ _ _ _ hb, Heap.get?_update_ne _ _ _ _ hb]
      exact Heap.get?_push_of_some _ e
    refine wpAny_bind (wpAny_letGo ?_)
    have hsn : h'.objs.size ≠ S := fun z => Nat.lt_irrefl _ (z ▸ lt _ _ hS')
    have hsI : h'.objs.size ≠ I := by
      obtain ⟨oI, hoI, _⟩ := hst'.1
      exact fun z => Nat.lt_irrefl _ (z ▸ lt _ _ hoI)
    have hnew : (((h'.push ({ cls := .type "list", data := .seq ((preL lst i).toArray ++ (lst i).toArray) } : Obj)).update S (Obj.mapSeq fun _ => #[Value.ref h'.objs.size])).update S (Obj.mapSeq fun _ => #[Value.ref h'.objs.size])).get? h'.objs.size = some { cls := .type "list", data := .seq ((preL lst i).toArray ++ (lst i).toArray) } := by
      rw [Heap.get?_update_ne _ _ _ _ hsn, Heap.get?_update_ne _ _ _ _ hsn]
      exact Heap.get?_push_size _ rfl
    have epre : (preL lst (i + 1)).toArray = (preL lst i).toArray ++ (lst i).toArray := by
      show (preL lst i ++ lst i).toArray = _
      simp
    refine wpAny_bind (wpAny_updateSeq hS₂ rfl (wpAny_pure ⟨plainId_quiet F.plain_sum_loop _, ih (i + 1) _ h'.objs.size 0 _ (by omega) hlt (hst'.1.at fun o e => keep _ _ (Ne.symm hSI) e) (hst'.2.at fun o e => keep _ _ (Ne.symm hSa) e) (Heap.get?_update_self _ hS₂ rfl) (by rw [epre]; exact hnew) hsn hsI
      (fun b o hbS hbI e => keep b o hbS (hm b o (by simp [hbI]) (hkp b o hbS hbI e))) fun h'' acc' na' tk' hk'' hI'' n1 n2 f1 f2 => ?_⟩))
    refine hR h'' acc' na' tk' (fun b o hbS hbI e => hk'' b o hbS hbI (keep b o hbS (hm b o (by simp [hbI]) e))) hI'' n1 n2 (fun _ => ?_) (fun z => absurd z (Nat.ne_of_lt hlt))
    rcases Nat.lt_or_eq_of_le (show i + 1 ≤ items.size from hlt) with z | z
    · exact f1 z
    · rw [f2 z]
      obtain ⟨oI, hoI, _⟩ := hst'.1
      exact lt _ _ hoI
end
theorem args_sum2 (a b : Value) : argsOk "sum" ⟨[a, b], []⟩ := by unfold argsOk; kernel_rfl
theorem sub_list_str : isSubtype (.type "list") (.type "str") = pure false := by rw [isSubtype_type]; kernel_rfl
theorem sub_list_bytes : isSubtype (.type "list") (.type "bytes") = pure false := by rw [isSubtype_type]; kernel_rfl
theorem sub_list_bytearray : isSubtype (.type "list") (.type "bytearray") = pure false := by rw [isSubtype_type]; kernel_rfl
section
variable {prog : Program} {w : World} {A : Around} {E : Value → Shared → Prop} {s : Shared} {l e : Addr} {items : Array Value}
/-- sum(lists, []) -/
theorem call_sum_lists {Q : Value → Shared → Prop} (hh : A.handled = none) (hl : s.heap.IsList l items) {ne : Nat} (he : IsL s.heap e #[] ne) (lst : Nat → List Value) (hbd : (preL lst items.size).length ≤ sizeLine)
    (hv : ∀ i v, items[i]? = some v → ∃ b nb, v = .ref b ∧ IsL s.heap b (lst i).toArray nb)
    (h : ∀ h' acc na tk, (∀ b o, s.heap.get? b = some o → h'.get? b = some o) → IsL h' acc (preL lst items.size).toArray na → (0 < items.size → s.heap.objs.size < acc) → Q (.ref acc) { s with heap := h', toks := tk }) :
    wpAny (model prog w) A (call (.builtin "sum") [.ref l, .ref e]) Q E s := by
  refine call_function_tree F.kind_sum F.plain_sum F.entry_sum (args_sum2 _ _) ?_
  unfold Builtin.«sum»
  simp only [List.length_cons, List.length_nil]
  rw [if_neg (by decide)]
  refine wpAny_bind (wpAny_of_eq (show Builtin.Builtins.bindParams "sum" ["start"] 0 { pos := [.ref e], kw := [] } = pure [some (.ref e)] from rfl) ?_)
  refine wpAny_bind (wpAny_pyIter_list hl ?_)
  obtain ⟨ol, hol, hcl⟩ := id hl
  have hlt : l < s.heap.objs.size := Heap.lt_size hol
  have hel : e < s.heap.objs.size := Heap.lt_size he
  have kp1 : ∀ b o, s.heap.get? b = some o → (s.heap.push ({ cls := .type "list_iterator", data := .fields #[.ref l, .int 0 0] } : Obj)).get? b = some o := fun b o q => Heap.get?_push_of_some _ q
  have te : Shared.TypeIs { s with heap := s.heap.push ({ cls := .type "list_iterator", data := .fields #[.ref l, .int 0 0] } : Obj) } (.ref e) "list" := ⟨_, kp1 _ _ he, rfl⟩
  refine wpAny_bind (wpAny_pure ?_)
  simp only [List.forIn_cons, List.forIn_nil]
  refine wpAny_bind (wpAny_bind (wpAny_bind (wpAny_isInstance (T := "list") (b := false) te sub_list_str ?_)))
  simp only [Bool.false_eq_true, if_false]
  refine wpAny_pure (wpAny_bind (wpAny_bind (wpAny_isInstance (T := "list") (b := false) te sub_list_bytes ?_)))
  simp only [Bool.false_eq_true, if_false]
  refine wpAny_pure (wpAny_bind (wpAny_bind (wpAny_isInstance (T := "list") (b := false) te sub_list_bytearray ?_)))
  simp only [Bool.false_eq_true, if_false]
  refine wpAny_pure (wpAny_pure ?_)
  refine wpAny_bind (wpAny_newObj_type ?_)
  have hz1 : (s.heap.push ({ cls := .type "list_iterator", data := .fields #[.ref l, .int 0 0] } : Obj)).objs.size = s.heap.objs.size + 1 := Heap.size_push ..
  have kp2 : ∀ b o, s.heap.get? b = some o → ((s.heap.push ({ cls := .type "list_iterator", data := .fields #[.ref l, .int 0 0] } : Obj)).push ({ cls := .type "list", data := .seq #[.ref e] } : Obj)).get? b = some o := fun b o q => Heap.get?_push_of_some _ (kp1 b o q)
  have hit : ((s.heap.push ({ cls := .type "list_iterator", data := .fields #[.ref l, .int 0 0] } : Obj)).push ({ cls := .type "list", data := .seq #[.ref e] } : Obj)).IsListIter s.heap.objs.size l 0 := ⟨_, Heap.get?_push_of_some _ (Heap.get?_push_size _ rfl), rfl, rfl⟩
  have hneI : l ≠ s.heap.objs.size := Nat.ne_of_lt hlt
  refine wpAny_pure ⟨plainId_quiet F.plain_sum_loop _, sum_loop_lists (by simp [hh]) hneI (S := (s.heap.push ({ cls := .type "list_iterator", data := .fields #[.ref l, .int 0 0] } : Obj)).objs.size) (by rw [hz1]; exact Nat.succ_ne_self _) (by rw [hz1]; exact Nat.ne_of_gt (Nat.lt_succ_of_lt hlt)) lst s.heap hbd
    (fun i v hi => ?_) items.size 0 _ e ne 0 (by omega) (Nat.zero_le _) hit (hl.at fun o q => kp2 _ _ q) (Heap.get?_push_size _ rfl) (kp2 _ _ he) (by rw [hz1]; exact Nat.ne_of_lt (Nat.lt_succ_of_lt hel)) (Nat.ne_of_lt hel) (fun b o _ _ q => kp2 b o q) fun h' acc' na' tk hk hI' n1 n2 f1 _ => ?_⟩
  · obtain ⟨b, nb, e1, hb⟩ := hv i v hi
    have hbl : b < s.heap.objs.size := Heap.lt_size hb
    exact ⟨b, nb, e1, by rw [hz1]; exact Nat.ne_of_lt (Nat.lt_succ_of_lt hbl), Nat.ne_of_lt hbl, hb⟩
  · refine h h' acc' na' tk (fun b o q => hk b o ?_ ?_ (kp2 b o q)) hI' fun z => ?_
    · rw [hz1]; exact Nat.ne_of_lt (Nat.lt_succ_of_lt (Heap.lt_size q))
    · exact Nat.ne_of_lt (Heap.lt_size q)
    · exact f1 z
end
end Hl

namespace Vl
open PySem PySem.Spec PyProof.Rows L2 Hl

theorem tT {K : PySem.W.Frag} {H H' : Hp} {a : Addr} {xs : List V} (e : Same H H') (h : H a = some (.tup xs)) : SqT K H' a xs := SqT.of (e _ _ h)
/-! ### values told without addresses -/
inductive D where
  | non
  | bl (b : Bool)
  | int (i : Int)
  | str (z : Str)
  | tup (l : List D)
  | lst (l : List D)
  | obj (c : Str) (fs : List (Str × D))
  | hnd
  | scr (ns : List Int)
  | dct (kvs : List (Key × D))
  | set (ns : List Int)
/-- what stands fixed: the text, what a source of draws is -/
structure Gx where
  K : PySem.W.Frag
  w : World
  mg : Str → Option Value
  DA : Hp → Addr → Prop
  mono : ∀ {H H' : Hp} {a : Addr}, Same H H' → DA H a → DA H' a
/-- a heap in four: the outer part, the shared, the draws', the whole -/
structure Wo where
  F : Hp
  H0 : Hp
  Hd : Hp
  H : Hp
  P : Addr → Prop
theorem ft_upd {F : Hp} {p b : Addr} {o : HO} {vs : List V} (ho : ∀ us, o ≠ .tup us) (hF : ∀ {b vs}, F b ≠ some (.tup vs)) : upd F p o b ≠ some (.tup vs) := fun e => by
  by_cases h : b = p
  · subst h
    rw [upd_same] at e
    exact ho _ (Option.some.inj e)
  · rw [upd_ne h] at e
    exact hF e
structure Wo.Ok (T : Wo) : Prop where
  sF : Same T.F T.H
  s0 : Same T.H0 T.H
  sd : Same T.Hd T.H
  F0 : ∀ {b x}, T.F b = some x → T.H0 b = none
  Fd : ∀ {b x}, T.F b = some x → T.Hd b = none
  zd : ∀ {b x}, T.H0 b = some x → T.Hd b = none
  ft : ∀ {b vs}, T.F b ≠ some (.tup vs)
  dt : ∀ {b vs}, T.Hd b ≠ some (.tup vs)
mutual
inductive R (Γ : Gx) (H0 Hd : Hp) : V → D → Prop
  | non : R Γ H0 Hd .non .non
  | bl (b : Bool) : R Γ H0 Hd (.bl b) (.bl b)
  | int (i : Int) : R Γ H0 Hd (.int i) (.int i)
  | str (z : Str) : R Γ H0 Hd (.str z) (.str z)
  | tup {a : Addr} {vs : List V} {l : List D} : H0 a = some (.tup vs) → RA Γ H0 Hd vs l → R Γ H0 Hd (.ref a) (.tup l)
  | lst {a : Addr} {vs : List V} {l : List D} : H0 a = some (.lst vs) → RA Γ H0 Hd vs l → R Γ H0 Hd (.ref a) (.lst l)
  | obj {a C dx : Addr} {vf : List (Str × V)} {c : Str} {df : List (Str × D)} : H0 a = some (.ins C dx vf) → Γ.mg c = some (.ref C) → Cls Γ.K C → (∀ f v, vf.lookup f = some v → NoAttr Γ.K C f) → RF Γ H0 Hd vf df → R Γ H0 Hd (.ref a) (.obj c df)
  | hnd {a : Addr} : Γ.DA Hd a → R Γ H0 Hd (.ref a) .hnd
  | scr {a : Addr} {ns : List Int} : SqL Γ.K H0 a (ns.map V.int) → R Γ H0 Hd (.ref a) (.scr ns)
  | dct {a : Addr} {vk : List (Key × V)} {dk : List (Key × D)} : H0 a = some (.dK vk) → RK Γ H0 Hd vk dk → R Γ H0 Hd (.ref a) (.dct dk)
  | set {a : Addr} {ns : List Int} {c : Nat} : H0 a = some (SetO Γ.w a (fun j => decide (j ∈ ns)) c) → R Γ H0 Hd (.ref a) (.set ns)
inductive RA (Γ : Gx) (H0 Hd : Hp) : List V → List D → Prop
  | nil : RA Γ H0 Hd [] []
  | cons {v : V} {d : D} {vs : List V} {l : List D} : R Γ H0 Hd v d → RA Γ H0 Hd vs l → RA Γ H0 Hd (v :: vs) (d :: l)
inductive RF (Γ : Gx) (H0 Hd : Hp) : List (Str × V) → List (Str × D) → Prop
  | nil : RF Γ H0 Hd [] []
  | cons {f : Str} {v : V} {d : D} {vs : List (Str × V)} {l : List (Str × D)} : R Γ H0 Hd v d → RF Γ H0 Hd vs l → RF Γ H0 Hd ((f, v) :: vs) ((f, d) :: l)
inductive RK (Γ : Gx) (H0 Hd : Hp) : List (Key × V) → List (Key × D) → Prop
  | nil : RK Γ H0 Hd [] []
  | cons {k : Key} {v : V} {d : D} {vs : List (Key × V)} {l : List (Key × D)} : R Γ H0 Hd v d → RK Γ H0 Hd vs l → RK Γ H0 Hd ((k, v) :: vs) ((k, d) :: l)
end
structure Ext (Γ : Gx) (T T' : Wo) : Prop where
  f : T'.F = T.F
  p : T'.P = T.P
  s0 : Same T.H0 T'.H0
  da : ∀ a, Γ.DA T.Hd a → Γ.DA T'.Hd a
section
variable {Γ : Gx} {T T' T'' : Wo}
theorem Ext.refl : Ext Γ T T := ⟨rfl, rfl, Same.refl _, fun _ h => h⟩
theorem Ext.trans (a : Ext Γ T T') (b : Ext Γ T' T'') : Ext Γ T T'' := ⟨b.f.trans a.f, b.p.trans a.p, a.s0.trans b.s0, fun x h => b.da x (a.da x h)⟩
variable {H0 Hd H0' Hd' : Hp}
mutual
theorem R.mono (e : Same H0 H0') (k : ∀ a, Γ.DA Hd a → Γ.DA Hd' a) : ∀ {v : V} {d : D}, R Γ H0 Hd v d → R Γ H0' Hd' v d
  | _, _, .non => .non
  | _, _, .bl b => .bl b
  | _, _, .int i => .int i
  | _, _, .str z => .str z
  | _, _, .tup h a => .tup (e _ _ h) (RA.mono e k a)
  | _, _, .lst h a => .lst (e _ _ h) (RA.mono e k a)
  | _, _, .obj h m c n a => .obj (e _ _ h) m c n (RF.mono e k a)
  | _, _, .hnd h => .hnd (k _ h)
  | _, _, .scr h => .scr (e.seq h)
  | _, _, .dct h a => .dct (e _ _ h) (RK.mono e k a)
  | _, _, .set h => .set (e _ _ h)
theorem RA.mono (e : Same H0 H0') (k : ∀ a, Γ.DA Hd a → Γ.DA Hd' a) : ∀ {vs : List V} {l : List D}, RA Γ H0 Hd vs l → RA Γ H0' Hd' vs l
  | _, _, .nil => .nil
  | _, _, .cons h t => .cons (R.mono e k h) (RA.mono e k t)
theorem RF.mono (e : Same H0 H0') (k : ∀ a, Γ.DA Hd a → Γ.DA Hd' a) : ∀ {vs : List (Str × V)} {l : List (Str × D)}, RF Γ H0 Hd vs l → RF Γ H0' Hd' vs l
  | _, _, .nil => .nil
  | _, _, .cons h t => .cons (R.mono e k h) (RF.mono e k t)
theorem RK.mono (e : Same H0 H0') (k : ∀ a, Γ.DA Hd a → Γ.DA Hd' a) : ∀ {vs : List (Key × V)} {l : List (Key × D)}, RK Γ H0 Hd vs l → RK Γ H0' Hd' vs l
  | _, _, .nil => .nil
  | _, _, .cons h t => .cons (R.mono e k h) (RK.mono e k t)
end
theorem R.ext {v : V} {d : D} (e : Ext Γ T T') (h : R Γ T.H0 T.Hd v d) : R Γ T'.H0 T'.Hd v d := h.mono e.s0 e.da
theorem RA.ext {v : List V} {d : List D} (e : Ext Γ T T') (h : RA Γ T.H0 T.Hd v d) : RA Γ T'.H0 T'.Hd v d := h.mono e.s0 e.da
theorem RA.len : ∀ {vs : List V} {l : List D}, RA Γ H0 Hd vs l → vs.length = l.length
  | _, _, .nil => rfl
  | _, _, .cons _ t => by rw [List.length_cons, List.length_cons, t.len]
theorem RA.get : ∀ {vs : List V} {l : List D} {i : Nat} {d : D}, RA Γ H0 Hd vs l → l[i]? = some d → ∃ v, vs[i]? = some v ∧ R Γ H0 Hd v d
  | _, _, _, _, .nil, h => by simp at h
  | _, _, 0, _, .cons h _, e => by simp at e; subst e; exact ⟨_, rfl, h⟩
  | _, _, i + 1, d, .cons _ t, e => by
    obtain ⟨v, h1, h2⟩ := RA.get (i := i) (d := d) t (by simpa using e)
    exact ⟨v, by simpa using h1, h2⟩
theorem RA.get' : ∀ {vs : List V} {l : List D} {i : Nat} {v : V}, RA Γ H0 Hd vs l → vs[i]? = some v → ∃ d, l[i]? = some d ∧ R Γ H0 Hd v d
  | _, _, _, _, .nil, h => by simp at h
  | _, _, 0, _, .cons h _, e => by simp at e; subst e; exact ⟨_, rfl, h⟩
  | _, _, i + 1, v, .cons _ t, e => by
    obtain ⟨d, h1, h2⟩ := RA.get' (i := i) (v := v) t (by simpa using e)
    exact ⟨d, by simpa using h1, h2⟩
theorem RA.app : ∀ {vs ws : List V} {l m : List D}, RA Γ H0 Hd vs l → RA Γ H0 Hd ws m → RA Γ H0 Hd (vs ++ ws) (l ++ m)
  | _, _, _, _, .nil, h => h
  | _, _, _, _, .cons h t, u => .cons h (t.app u)
theorem RA.set : ∀ {vs : List V} {l : List D} {v : V} {d : D} (i : Nat), RA Γ H0 Hd vs l → R Γ H0 Hd v d → RA Γ H0 Hd (vs.set i v) (l.set i d)
  | _, _, _, _, _, .nil, _ => .nil
  | _, _, _, _, 0, .cons _ t, h => .cons h t
  | _, _, _, _, i + 1, .cons h' t, h => .cons h' (t.set i h)
theorem RA.drop : ∀ {vs : List V} {l : List D} (i : Nat), RA Γ H0 Hd vs l → RA Γ H0 Hd (vs.drop i) (l.drop i)
  | _, _, 0, h => by simpa using h
  | _, _, _ + 1, .nil => by simp; exact .nil
  | _, _, i + 1, .cons _ t => by simpa using t.drop i
theorem RA.take : ∀ {vs : List V} {l : List D} (i : Nat), RA Γ H0 Hd vs l → RA Γ H0 Hd (vs.take i) (l.take i)
  | _, _, 0, _ => by simp; exact .nil
  | _, _, _ + 1, .nil => by simp; exact .nil
  | _, _, i + 1, .cons h t => by simp only [List.take_succ_cons]; exact .cons h (t.take i)
theorem RA.reverse {vs : List V} {l : List D} (h : RA Γ H0 Hd vs l) : RA Γ H0 Hd vs.reverse l.reverse := by
  induction vs generalizing l with
  | nil => cases h; exact .nil
  | cons v vs ih =>
    cases h with
    | cons h t => simp only [List.reverse_cons]; exact (ih t).app (.cons h .nil)
theorem RA.eraseIdx : ∀ {vs : List V} {l : List D} (i : Nat), RA Γ H0 Hd vs l → RA Γ H0 Hd (vs.eraseIdx i) (l.eraseIdx i)
  | _, _, _, .nil => .nil
  | _, _, 0, .cons _ t => t
  | _, _, i + 1, .cons h t => .cons h (t.eraseIdx i)
theorem RF.lookup : ∀ {vs : List (Str × V)} {l : List (Str × D)} {f : Str} {d : D}, RF Γ H0 Hd vs l → l.lookup f = some d → ∃ v, vs.lookup f = some v ∧ R Γ H0 Hd v d
  | _, _, _, _, .nil, h => by simp at h
  | _, _, f, d, .cons (f := g) h t, e => by
    simp only [List.lookup] at e ⊢
    cases hfg : f == g with
    | true => rw [hfg] at e; cases e; exact ⟨_, rfl, h⟩
    | false => rw [hfg] at e; exact t.lookup e
end

/-- entries whose keys are tuples -/
inductive RKT (Γ : Gx) (H0 Hd : Hp) : List (List Key × V) → List (List Key × D) → Prop
  | nil : RKT Γ H0 Hd [] []
  | cons {k : List Key} {v : V} {d : D} {vs : List (List Key × V)} {l : List (List Key × D)} : R Γ H0 Hd v d → RKT Γ H0 Hd vs l → RKT Γ H0 Hd ((k, v) :: vs) ((k, d) :: l)
theorem RKT.mono {Γ : Gx} {H0 Hd H0' Hd' : Hp} (e : Same H0 H0') (k : ∀ a, Γ.DA Hd a → Γ.DA Hd' a) : ∀ {vs : List (List Key × V)} {l : List (List Key × D)}, RKT Γ H0 Hd vs l → RKT Γ H0' Hd' vs l
  | _, _, .nil => .nil
  | _, _, .cons h t => .cons (R.mono e k h) (RKT.mono e k t)
/-! ### slots -/
inductive Cell where
  | no
  | val (d : D)
  | own (l : List D)
  | pin (p : Addr) (l : List D)
  | obj (p : Addr) (c : Str) (fs : List (Str × D))
  | dic (kvs : List (Key × D))
  | dit (kvs : List (List Key × D))
/-- one's own, it may be changed -/
def Cell.priv : Cell → Bool
  | .own _ => true
  | .obj _ _ _ => true
  | .dic _ => true
  | .dit _ => true
  | .pin _ _ => true
  | _ => false
abbrev Vn := List Cell
def CellR (Γ : Gx) (T : Wo) (s : Option V) : Cell → Prop
  | .no => True
  | .val d => ∃ v, s = some v ∧ R Γ T.H0 T.Hd v d
  | .own l => ∃ p vs, s = some (.ref p) ∧ T.H p = some (.lst vs) ∧ RA Γ T.H0 T.Hd vs l ∧ T.F p = none ∧ T.H0 p = none ∧ T.Hd p = none
  | .pin p l => ∃ vs, s = some (.ref p) ∧ T.P p ∧ T.F p = some (.lst vs) ∧ RA Γ T.H0 T.Hd vs l
  | .obj p c fs => ∃ C dx vf, s = some (.ref p) ∧ T.H p = some (.ins C dx vf) ∧ Γ.mg c = some (.ref C) ∧ Cls Γ.K C ∧ (∀ f v, vf.lookup f = some v → NoAttr Γ.K C f) ∧ RF Γ T.H0 T.Hd vf fs ∧ T.F p = none ∧ T.H0 p = none ∧ T.Hd p = none
  | .dic l => ∃ p vs, s = some (.ref p) ∧ T.H p = some (.dK vs) ∧ RK Γ T.H0 T.Hd vs l ∧ T.F p = none ∧ T.H0 p = none ∧ T.Hd p = none
  | .dit l => ∃ p vs, s = some (.ref p) ∧ T.H p = some (.dT vs) ∧ RKT Γ T.H0 T.Hd vs l ∧ T.F p = none ∧ T.H0 p = none ∧ T.Hd p = none
structure Sv (Γ : Gx) (T : Wo) (σ : L2.St) (ρ : Vn) : Prop where
  ok : T.Ok
  len : σ.length = ρ.length
  cell : ∀ (i : Nat) (c : Cell), ρ[i]? = some c → ∃ s, σ[i]? = some s ∧ CellR Γ T s c
  dist : ∀ (i j : Nat) (p : Addr) (c c' : Cell), ρ[i]? = some c → ρ[j]? = some c' → c.priv = true → c'.priv = true → σ[i]? = some (some (.ref p)) → σ[j]? = some (some (.ref p)) → i = j
/-- the heap grows -/
structure Gr (T T' : Wo) : Prop where
  ok : T'.Ok
  f : T'.F = T.F
  p : T'.P = T.P
  d : T'.Hd = T.Hd
  s : Same T.H T'.H
  s0 : Same T.H0 T'.H0
  ns : ∀ {b x}, T.H b = some x → T.H0 b = none → T'.H0 b = none
section
variable {Γ : Gx} {T T' T'' : Wo} {σ : L2.St} {ρ : Vn}
theorem Gr.refl (h : T.Ok) : Gr T T := ⟨h, rfl, rfl, rfl, Same.refl _, Same.refl _, fun _ h => h⟩
theorem Gr.ext (g : Gr T T') : Ext Γ T T' := ⟨g.f, g.p, g.s0, fun a h => by rw [g.d]; exact h⟩
theorem Gr.trans (a : Gr T T') (b : Gr T' T'') : Gr T T'' := ⟨b.ok, b.f.trans a.f, b.p.trans a.p, b.d.trans a.d, a.s.trans b.s, a.s0.trans b.s0, fun h1 h2 => b.ns (a.s _ _ h1) (a.ns h1 h2)⟩
theorem Sv.grow (h : Sv Γ T σ ρ) (g : Gr T T') : Sv Γ T' σ ρ := by
  refine ⟨g.ok, h.len, fun i c e => ?_, h.dist⟩
  obtain ⟨s, e1, r⟩ := h.cell i c e
  refine ⟨s, e1, ?_⟩
  cases c with
  | no => trivial
  | val d => obtain ⟨v, e2, r⟩ := r; exact ⟨v, e2, r.ext g.ext⟩
  | own l =>
    obtain ⟨p, vs, e2, e3, r, n1, n2, n3⟩ := r
    exact ⟨p, vs, e2, g.s _ _ e3, r.ext g.ext, by rw [g.f]; exact n1, g.ns e3 n2, by rw [g.d]; exact n3⟩
  | pin p l =>
    obtain ⟨vs, e2, e0, e3, r⟩ := r
    exact ⟨vs, e2, by rw [g.p]; exact e0, by rw [g.f]; exact e3, r.ext g.ext⟩
  | obj p c fs =>
    obtain ⟨C, dx, vf, e2, e3, m, cl, na, r, n1, n2, n3⟩ := r
    exact ⟨C, dx, vf, e2, g.s _ _ e3, m, cl, na, r.mono g.s0 g.ext.da, by rw [g.f]; exact n1, g.ns e3 n2, by rw [g.d]; exact n3⟩
  | dic l =>
    obtain ⟨p, vs, e2, e3, r, n1, n2, n3⟩ := r
    exact ⟨p, vs, e2, g.s _ _ e3, r.mono g.s0 g.ext.da, by rw [g.f]; exact n1, g.ns e3 n2, by rw [g.d]; exact n3⟩
  | dit l =>
    obtain ⟨p, vs, e2, e3, r, n1, n2, n3⟩ := r
    exact ⟨p, vs, e2, g.s _ _ e3, r.mono g.s0 g.ext.da, by rw [g.f]; exact n1, g.ns e3 n2, by rw [g.d]; exact n3⟩
/-- a new shared object -/
theorem Gr.new {p : Addr} {o : HO} (h : T.Ok) (n : T.H p = none) : Gr T ⟨T.F, upd T.H0 p o, T.Hd, upd T.H p o, T.P⟩ := by
  have nF : ∀ {x}, T.F p = some x → False := fun e => by have := h.sF _ _ e; rw [n] at this; cases this
  have n0 : T.H0 p = none := by cases e : T.H0 p with | none => rfl | some x => have := h.s0 _ _ e; rw [n] at this; cases this
  have nd : T.Hd p = none := by cases e : T.Hd p with | none => rfl | some x => have := h.sd _ _ e; rw [n] at this; cases this
  refine ⟨⟨?_, ?_, ?_, ?_, h.Fd, ?_, h.ft, h.dt⟩, rfl, rfl, rfl, same_new n, same_new n0, ?_⟩
  · exact fun b x e => same_new n _ _ (h.sF _ _ e)
  · intro b x e
    dsimp only at e ⊢
    by_cases hb : b = p
    · subst hb; rw [upd_same] at e ⊢; exact e
    · rw [upd_ne hb] at e ⊢; exact h.s0 _ _ e
  · exact fun b x e => same_new n _ _ (h.sd _ _ e)
  · intro b x e
    have hb : b ≠ p := fun z => nF (by rw [← z]; exact e)
    show upd T.H0 p o b = none
    rw [upd_ne hb]
    exact h.F0 e
  · intro b x e
    dsimp only at e ⊢
    by_cases hb : b = p
    · subst hb; exact nd
    · rw [upd_ne hb] at e; exact h.zd e
  · intro b x e n'
    have hb : b ≠ p := fun z => by rw [z, n] at e; cases e
    show upd T.H0 p o b = none
    rw [upd_ne hb]; exact n'
/-- a new object, still one's own -/
theorem Gr.priv {p : Addr} {o : HO} (h : T.Ok) (n : T.H p = none) : Gr T ⟨T.F, T.H0, T.Hd, upd T.H p o, T.P⟩ :=
  ⟨⟨fun b x e => same_new n _ _ (h.sF _ _ e), fun b x e => same_new n _ _ (h.s0 _ _ e), fun b x e => same_new n _ _ (h.sd _ _ e), h.F0, h.Fd, h.zd, h.ft, h.dt⟩, rfl, rfl, rfl, same_new n, Same.refl _, fun _ h => h⟩
theorem none_of_le {A B : Hp} {p : Addr} (h : Same A B) (n : B p = none) : A p = none := by
  cases e : A p with
  | none => rfl
  | some x => have := h _ _ e; rw [n] at this; cases this
/-- a slot is stored -/
theorem set_at {α : Type} {l : List α} {i j : Nat} {x c : α} (h : (l.set i x)[j]? = some c) : (i = j ∧ i < l.length ∧ c = x) ∨ (i ≠ j ∧ l[j]? = some c) := by
  by_cases hj : i = j
  · subst hj
    by_cases hl : i < l.length
    · rw [List.getElem?_set_self hl] at h; cases h; exact .inl ⟨rfl, hl, rfl⟩
    · rw [List.getElem?_eq_none (by simpa using hl)] at h; cases h
  · rw [List.getElem?_set_ne hj] at h; exact .inr ⟨hj, h⟩
theorem Sv.set {i : Nat} {v : V} {c : Cell} (h : Sv Γ T σ ρ) (r : CellR Γ T (some v) c) (hd : c.priv = true → ∀ j p c', v = .ref p → ρ[j]? = some c' → c'.priv = true → σ[j]? = some (some (.ref p)) → j = i) : Sv Γ T (σ.set i (some v)) (ρ.set i c) := by
  refine ⟨h.ok, by rw [List.length_set, List.length_set, h.len], fun j c' e => ?_, fun j k p c1 c2 e1 e2 p1 p2 e3 e4 => ?_⟩
  · rcases set_at e with ⟨rfl, hl, rfl⟩ | ⟨hj, e⟩
    · exact ⟨some v, List.getElem?_set_self (by rw [h.len]; exact hl), r⟩
    · rw [List.getElem?_set_ne hj]
      exact h.cell j c' e
  · rcases set_at e1 with ⟨rfl, hl, rfl⟩ | ⟨hj, f1⟩ <;> rcases set_at e2 with ⟨rfl, hl', rfl⟩ | ⟨hk, f2⟩
    · rfl
    · rw [List.getElem?_set_self (by rw [h.len]; exact hl)] at e3
      rw [List.getElem?_set_ne hk] at e4
      cases e3
      exact (hd p1 k p _ rfl f2 p2 e4).symm
    · rw [List.getElem?_set_self (by rw [h.len]; exact hl')] at e4
      rw [List.getElem?_set_ne hj] at e3
      cases e4
      exact hd p2 j p _ rfl f1 p1 e3
    · rw [List.getElem?_set_ne hj] at e3
      rw [List.getElem?_set_ne hk] at e4
      exact h.dist j k p c1 c2 f1 f2 p1 p2 e3 e4
theorem Sv.setVal {i : Nat} {v : V} {d : D} (h : Sv Γ T σ ρ) (r : R Γ T.H0 T.Hd v d) : Sv Γ T (σ.set i (some v)) (ρ.set i (.val d)) :=
  h.set ⟨v, rfl, r⟩ fun e => nomatch e
/-- a slot is known otherwise -/
theorem Sv.re {i : Nat} {c : Cell} (h : Sv Γ T σ ρ) (r : ∀ s, σ[i]? = some s → i < ρ.length → CellR Γ T s c) (hp : c.priv = true → ∃ c', ρ[i]? = some c' ∧ c'.priv = true) : Sv Γ T σ (ρ.set i c) := by
  refine ⟨h.ok, by rw [List.length_set, h.len], fun j c e => ?_, fun j k p c1 c2 e1 e2 p1 p2 e3 e4 => ?_⟩
  · rcases set_at e with ⟨rfl, hl, rfl⟩ | ⟨hj, e⟩
    · have e' := List.getElem?_eq_getElem (l := σ) (i := i) (by rw [h.len]; exact hl)
      exact ⟨_, e', r _ e' hl⟩
    · exact h.cell j c e
  · have f : ∀ {j : Nat} {c1 : Cell}, (ρ.set i c)[j]? = some c1 → c1.priv = true → ∃ c', ρ[j]? = some c' ∧ c'.priv = true := fun {j c1} e p => by
      rcases set_at e with ⟨rfl, hl, rfl⟩ | ⟨hj, e⟩
      · exact hp p
      · exact ⟨_, e, p⟩
    obtain ⟨c1', e1, p1⟩ := f e1 p1
    obtain ⟨c2', e2, p2⟩ := f e2 p2
    exact h.dist j k p _ _ e1 e2 p1 p2 e3 e4
theorem Sv.forget {i : Nat} (h : Sv Γ T σ ρ) : Sv Γ T σ (ρ.set i .no) := h.re (fun _ _ _ => trivial) fun e => nomatch e
end

/-! ### judgements -/
abbrev WE := Vn → (D → Vn → Prop) → Prop
abbrev WF := Vn → (List D → Vn → Prop) → Prop
abbrev WT := Vn → (Bool → Vn → Prop) → Prop
/-- an operand: a value, or what stands in a slot -/
inductive AI where
  | d (d : D)
  | sl (i : Nat)
abbrev WO := Vn → (AI → Vn → Prop) → Prop
abbrev WA := Vn → (List AI → Vn → Prop) → Prop
structure EV where
  nx : Vn → Prop
  rt : D → Prop
  bk : Vn → Prop := fun _ => False
  ct : Vn → Prop := fun _ => False
abbrev WS := EV → Vn → Prop
def AR (Γ : Gx) (T : Wo) (σ : L2.St) (v : V) : AI → Prop
  | .d d => R Γ T.H0 T.Hd v d
  | .sl i => σ[i]? = some (some v)
inductive ARs (Γ : Gx) (T : Wo) (σ : L2.St) : List V → List AI → Prop
  | nil : ARs Γ T σ [] []
  | cons {v : V} {a : AI} {vs : List V} {l : List AI} : AR Γ T σ v a → ARs Γ T σ vs l → ARs Γ T σ (v :: vs) (a :: l)
structure SE (Γ : Gx) (t : TE) (w : WE) : Prop where
  h : ∀ {T : Wo} {σ : L2.St} {ρ : Vn} {Q : D → Vn → Prop} {Q' : VK}, Sv Γ T σ ρ → w ρ Q → (∀ v T' d ρ', Sv Γ T' σ ρ' → Ext Γ T T' → R Γ T'.H0 T'.Hd v d → Q d ρ' → Q' v T'.H) → t σ T.H Q'
/-- a new list -/
structure SF (Γ : Gx) (t : TE) (w : WF) : Prop where
  h : ∀ {T : Wo} {σ : L2.St} {ρ : Vn} {Q : List D → Vn → Prop} {Q' : VK}, Sv Γ T σ ρ → w ρ Q → (∀ p vs T' l ρ', Sv Γ T' σ ρ' → Ext Γ T T' → T'.H p = some (.lst vs) → T'.F p = none → T'.H0 p = none → T'.Hd p = none → (∀ (j : Nat) (c : Cell), ρ'[j]? = some c → c.priv = true → σ[j]? ≠ some (some (.ref p))) → RA Γ T'.H0 T'.Hd vs l → Q l ρ' → Q' (.ref p) T'.H) → t σ T.H Q'
structure ST (Γ : Gx) (t : TT) (w : WT) : Prop where
  h : ∀ {T : Wo} {σ : L2.St} {ρ : Vn} {Q : Bool → Vn → Prop} {Q' : Bool → Hp → Prop}, Sv Γ T σ ρ → w ρ Q → (∀ b T' ρ', Sv Γ T' σ ρ' → Ext Γ T T' → Q b ρ' → Q' b T'.H) → t σ T.H Q'
structure SO (Γ : Gx) (t : TE) (w : WO) : Prop where
  h : ∀ {T : Wo} {σ : L2.St} {ρ : Vn} {Q : AI → Vn → Prop} {Q' : VK}, Sv Γ T σ ρ → w ρ Q → (∀ v T' a ρ', Sv Γ T' σ ρ' → Ext Γ T T' → AR Γ T' σ v a → Q a ρ' → Q' v T'.H) → t σ T.H Q'
structure SA (Γ : Gx) (t : TA) (w : WA) : Prop where
  h : ∀ {T : Wo} {σ : L2.St} {ρ : Vn} {Q : List AI → Vn → Prop} {Q' : List V → Hp → Prop}, Sv Γ T σ ρ → w ρ Q → (∀ vs T' as ρ', Sv Γ T' σ ρ' → Ext Γ T T' → ARs Γ T' σ vs as → Q as ρ' → Q' vs T'.H) → t σ T.H Q'
structure SS (Γ : Gx) (t : TS) (w : WS) : Prop where
  h : ∀ {T : Wo} {σ : L2.St} {ρ : Vn} {D : EV} {D' : Ends}, Sv Γ T σ ρ → w D ρ →
    (∀ T' σ' ρ', Sv Γ T' σ' ρ' → Ext Γ T T' → D.nx ρ' → D'.nx σ' T'.H) →
    (∀ T' v d, T'.Ok → Ext Γ T T' → R Γ T'.H0 T'.Hd v d → D.rt d → D'.rt v T'.H) →
    (∀ T' σ' ρ', Sv Γ T' σ' ρ' → Ext Γ T T' → D.bk ρ' → D'.bk σ' T'.H) →
    (∀ T' σ' ρ', Sv Γ T' σ' ρ' → Ext Γ T T' → D.ct ρ' → D'.ct σ' T'.H) → t D' σ T.H
structure VE (Γ : Gx) (X : Cx) (e : Expr) (t : TE) (w : WE) : Prop where
  pe : PE X e t
  se : SE Γ t w
structure VF (Γ : Gx) (X : Cx) (e : Expr) (t : TE) (w : WF) : Prop where
  pe : PE X e t
  se : SF Γ t w
structure VO (Γ : Gx) (X : Cx) (e : Expr) (t : TE) (w : WO) : Prop where
  pe : PE X e t
  se : SO Γ t w
structure VA (Γ : Gx) (X : Cx) (es : List Expr) (t : TA) (w : WA) : Prop where
  pe : PA X es t
  se : SA Γ t w
structure VT (Γ : Gx) (X : Cx) (e : Expr) (t : TT) (w : WT) : Prop where
  pe : PT X e t
  se : ST Γ t w
structure VW (Γ : Gx) (X : Cx) (e : Expr) (t : TT) (w : WT) : Prop where
  pe : PW X e t
  se : ST Γ t w
structure VS (Γ : Gx) (X : Cx) (s : Stmt) (t : TS) (w : WS) : Prop where
  pe : PS X s t
  se : SS Γ t w
structure VB (Γ : Gx) (X : Cx) (s : List Stmt) (t : TS) (w : WS) : Prop where
  pe : PSs X s t
  se : SS Γ t w

/-! ### names, constants -/
@[simp] def cVal : Cell → (D → Prop) → Prop
  | .val d, k => k d
  | _, _ => False
@[simp] def cRd : Cell → (D → Prop) → Prop
  | .val d, k => k d
  | .own l, k => k (.lst l)
  | .pin _ l, k => k (.lst l)
  | .dic l, k => k (.dct l)
  | _, _ => False
@[simp] def cOwn : Cell → (List D → Prop) → Prop
  | .own l, k => k l
  | _, _ => False
@[simp] def wVar (i : Nat) : WE := fun ρ Q => cVal (ρ.getD i .no) fun d => Q d ρ
@[simp] def wC (d : D) : WE := fun ρ Q => Q d ρ
@[simp] def wSl (i : Nat) : WO := fun ρ Q => cRd (ρ.getD i .no) fun _ => Q (.sl i) ρ
@[simp] def wOf (w : WE) : WO := fun ρ Q => w ρ fun d ρ' => Q (.d d) ρ'
/-- an operand's value -/
@[simp] def rs1 (ρ : Vn) : AI → (D → Prop) → Prop
  | .d d, k => k d
  | .sl i, k => cRd (ρ.getD i .no) k
@[simp] def rsN (ρ : Vn) : List AI → (List D → Prop) → Prop
  | [], k => k []
  | a :: r, k => rs1 ρ a fun d => rsN ρ r fun ds => k (d :: ds)
section
variable {Γ : Gx} {T : Wo} {σ : L2.St} {ρ : Vn} {i : Nat}
theorem getD_of {c : Cell} (h : ρ.getD i .no = c) (hc : c ≠ .no) : ρ[i]? = some c := by
  rw [List.getD_eq_getElem?_getD] at h
  cases e : ρ[i]? with
  | none => rw [e] at h; exact absurd h.symm hc
  | some x => rw [e] at h; exact congrArg some h
theorem cVal_of {c : Cell} {k : D → Prop} (h : cVal c k) : ∃ d, c = .val d ∧ k d := by
  cases c with
  | val d => exact ⟨d, rfl, h⟩
  | _ => exact h.elim
@[simp] def cDic : Cell → (List (Key × D) → Prop) → Prop
  | .dic l, k => k l
  | _, _ => False
theorem cDic_of {c : Cell} {k : List (Key × D) → Prop} (h : cDic c k) : ∃ d, c = .dic d ∧ k d := by
  cases c with
  | dic d => exact ⟨d, rfl, h⟩
  | _ => exact h.elim
@[simp] def cObj : Cell → (Addr → Str → List (Str × D) → Prop) → Prop
  | .obj p c l, k => k p c l
  | _, _ => False
theorem cObj_of {c : Cell} {k : Addr → Str → List (Str × D) → Prop} (h : cObj c k) : ∃ p n d, c = .obj p n d ∧ k p n d := by
  cases c with
  | obj p n d => exact ⟨p, n, d, rfl, h⟩
  | _ => exact h.elim
theorem cOwn_of {c : Cell} {k : List D → Prop} (h : cOwn c k) : ∃ d, c = .own d ∧ k d := by
  cases c with
  | own d => exact ⟨d, rfl, h⟩
  | _ => exact h.elim
/-- a value as an operand reads it: shared, or a list that stands by itself with shared items -/
inductive RO (Γ : Gx) (T : Wo) : V → D → Prop
  | sh {v d} : R Γ T.H0 T.Hd v d → RO Γ T v d
  | li {p vs l} : T.H p = some (.lst vs) → RA Γ T.H0 T.Hd vs l → RO Γ T (.ref p) (.lst l)
  | di {p vs l} : T.H p = some (.dK vs) → RK Γ T.H0 T.Hd vs l → RO Γ T (.ref p) (.dct l)
inductive ROs (Γ : Gx) (T : Wo) : List V → List D → Prop
  | nil : ROs Γ T [] []
  | cons {v d vs l} : RO Γ T v d → ROs Γ T vs l → ROs Γ T (v :: vs) (d :: l)
theorem Sv.rd {s : V} {k : D → Prop} (S : Sv Γ T σ ρ) (hs : σ[i]? = some (some s)) (h : cRd (ρ.getD i .no) k) : ∃ d, RO Γ T s d ∧ k d := by
  cases e : ρ.getD i .no with
  | no => rw [e] at h; exact h.elim
  | val d =>
    rw [e] at h
    obtain ⟨s', e1, v, e2, r⟩ := S.cell i _ (getD_of e (by simp))
    rw [hs] at e1; cases e1; cases e2
    exact ⟨d, .sh r, h⟩
  | own l =>
    rw [e] at h
    obtain ⟨s', e1, p, vs, e2, hp, r, _⟩ := S.cell i _ (getD_of e (by simp))
    rw [hs] at e1; cases e1; cases e2
    exact ⟨_, .li hp r, h⟩
  | pin p l =>
    rw [e] at h
    obtain ⟨s', e1, vs, e2, _, hp, r⟩ := S.cell i _ (getD_of e (by simp))
    rw [hs] at e1; cases e1; cases e2
    exact ⟨_, .li (S.ok.sF _ _ hp) r, h⟩
  | dic l =>
    rw [e] at h
    obtain ⟨s', e1, p, vs, e2, hp, r, _⟩ := S.cell i _ (getD_of e (by simp))
    rw [hs] at e1; cases e1; cases e2
    exact ⟨_, .di hp r, h⟩
  | _ => rw [e] at h; exact h.elim
theorem Sv.rd' {k : D → Prop} (S : Sv Γ T σ ρ) (h : cRd (ρ.getD i .no) k) : ∃ s, σ[i]? = some (some s) := by
  cases e : ρ.getD i .no with
  | no => rw [e] at h; exact h.elim
  | val d => obtain ⟨s', e1, v, e2, r⟩ := S.cell i _ (getD_of e (by simp)); exact ⟨v, by rw [e1, e2]⟩
  | own l => obtain ⟨s', e1, p, vs, e2, _⟩ := S.cell i _ (getD_of e (by simp)); exact ⟨_, by rw [e1, e2]⟩
  | pin p l => obtain ⟨s', e1, vs, e2, _⟩ := S.cell i _ (getD_of e (by simp)); exact ⟨_, by rw [e1, e2]⟩
  | dic l => obtain ⟨s', e1, p, vs, e2, _⟩ := S.cell i _ (getD_of e (by simp)); exact ⟨_, by rw [e1, e2]⟩
  | _ => rw [e] at h; exact h.elim
theorem Sv.rs1 {v : V} {a : AI} {k : D → Prop} (S : Sv Γ T σ ρ) (ha : AR Γ T σ v a) (h : rs1 ρ a k) : ∃ d, RO Γ T v d ∧ k d := by
  cases a with
  | d d => exact ⟨d, .sh ha, h⟩
  | sl i => exact S.rd ha h
theorem Sv.rsN : ∀ {vs : List V} {as : List AI} {k : List D → Prop} (S : Sv Γ T σ ρ) (ha : ARs Γ T σ vs as) (h : rsN ρ as k), ∃ ds, ROs Γ T vs ds ∧ k ds
  | _, _, _, S, .nil, h => ⟨[], .nil, h⟩
  | _, _, _, S, .cons a r, h => by
    obtain ⟨d, r1, h⟩ := S.rs1 a h
    obtain ⟨ds, r2, h⟩ := Sv.rsN S r h
    exact ⟨d :: ds, .cons r1 r2, h⟩
theorem AR.ext {T' : Wo} {v : V} {a : AI} (h : AR Γ T σ v a) (e : Ext Γ T T') : AR Γ T' σ v a := by
  cases a with
  | d d => exact R.ext e h
  | sl i => exact h
variable {X : Cx} {e : Expr} {x : Str} {p : Pos}
theorem ve_var (hp : PE X e (tVar i)) : VE Γ X e (tVar i) (wVar i) := ⟨hp, ⟨fun {T σ ρ Q Q'} S h q => by
  obtain ⟨d, e, h⟩ := cVal_of h
  obtain ⟨s, e1, v, e2, r⟩ := S.cell i _ (getD_of e (by simp))
  exact ⟨v, by rw [e1, e2], q v T d ρ S .refl r h⟩⟩⟩
theorem vo_var (hp : PE X e (tVar i)) : VO Γ X e (tVar i) (wSl i) := ⟨hp, ⟨fun {T σ ρ Q Q'} S h q => by
  obtain ⟨s, hs⟩ := S.rd' h
  obtain ⟨d, _, h⟩ := S.rd hs h
  exact ⟨s, hs, q s T (.sl i) ρ S .refl hs h⟩⟩⟩
theorem vo_of {t : TE} {w : WE} (h : VE Γ X e t w) : VO Γ X e t (wOf w) := ⟨h.pe, ⟨fun S hw q => h.se.h S hw fun v T' d ρ' S' e' r' z => q v T' (.d d) ρ' S' e' r' z⟩⟩
theorem ve_c {v : V} {d : D} (hp : PE X e (tC v)) (r : ∀ H0 Hd, R Γ H0 Hd v d) : VE Γ X e (tC v) (wC d) := ⟨hp, ⟨fun {T σ ρ Q Q'} S h q => q v T d ρ S .refl (r _ _) h⟩⟩
theorem ve_int {i : Int} (hp : PE X e (tC (.int i))) : VE Γ X e (tC (.int i)) (wC (.int i)) := ve_c hp fun _ _ => .int i
theorem ve_bl {i : Bool} (hp : PE X e (tC (.bl i))) : VE Γ X e (tC (.bl i)) (wC (.bl i)) := ve_c hp fun _ _ => .bl i
theorem ve_str {i : Str} (hp : PE X e (tC (.str i))) : VE Γ X e (tC (.str i)) (wC (.str i)) := ve_c hp fun _ _ => .str i
theorem ve_non (hp : PE X e (tC .non)) : VE Γ X e (tC .non) (wC .non) := ve_c hp fun _ _ => .non
end
end Vl

namespace Vl
open PySem PySem.Spec PyProof.Rows L2 Hl

/-! ### operators by values -/
abbrev G1 := D → (D → Prop) → Prop
abbrev G2 := D → D → (D → Prop) → Prop
abbrev GN := List D → (D → Prop) → Prop
abbrev F2 := D → D → (List D → Prop) → Prop
abbrev FN := List D → (List D → Prop) → Prop
structure OS (Γ : Gx) (r : R2) (g : G2) : Prop where
  h : ∀ {T : Wo} {x y : V} {a b : D} {Q : D → Prop} {Q' : VK}, T.Ok → RO Γ T x a → RO Γ T y b → g a b Q → (∀ v T' d, Gr T T' → R Γ T'.H0 T'.Hd v d → Q d → Q' v T'.H) → r x y T.H Q'
structure OSF (Γ : Gx) (r : R2) (g : F2) : Prop where
  h : ∀ {T : Wo} {x y : V} {a b : D} {Q : List D → Prop} {Q' : VK}, T.Ok → RO Γ T x a → RO Γ T y b → g a b Q → (∀ p vs l, T.H p = none → RA Γ T.H0 T.Hd vs l → Q l → Q' (.ref p) (upd T.H p (.lst vs))) → r x y T.H Q'
structure CS (Γ : Gx) (r : List V → Hp → VK → Prop) (g : GN) : Prop where
  h : ∀ {T : Wo} {xs : List V} {as : List D} {Q : D → Prop} {Q' : VK}, T.Ok → ROs Γ T xs as → g as Q → (∀ v T' d, Gr T T' → R Γ T'.H0 T'.Hd v d → Q d → Q' v T'.H) → r xs T.H Q'
structure CSF (Γ : Gx) (r : List V → Hp → VK → Prop) (g : FN) : Prop where
  h : ∀ {T : Wo} {xs : List V} {as : List D} {Q : List D → Prop} {Q' : VK}, T.Ok → ROs Γ T xs as → g as Q → (∀ p vs l, T.H p = none → RA Γ T.H0 T.Hd vs l → Q l → Q' (.ref p) (upd T.H p (.lst vs))) → r xs T.H Q'
theorem opr_or {X : Cx} {f : Value → Value → Sem Value} {r r' : R2} (h : OpR X f r) (h' : OpR X f r') : OpR X f (fun x y H Q => r x y H Q ∨ r' x y H Q) :=
  fun pins s σ H x y v u Q I rx ry q => q.elim (h pins s σ H x y v u Q I rx ry) (h' pins s σ H x y v u Q I rx ry)
theorem cr_or {X : Cx} {f : Value} {r r' : List V → Hp → VK → Prop} (h : CallR X f r) (h' : CallR X f r') : CallR X f (fun x H Q => r x H Q ∨ r' x H Q) :=
  fun pins s σ H x us Q I rx q => Or.elim q (h pins s σ H x us Q I rx) (h' pins s σ H x us Q I rx)
section
variable {Γ : Gx} {T : Wo} {v : V}
theorem RO.non (h : RO Γ T v .non) : v = .non := by
  cases h with
  | sh h => cases h; rfl
theorem RO.bl {b : Bool} (h : RO Γ T v (.bl b)) : v = .bl b := by
  cases h with
  | sh h => cases h; rfl
theorem RO.int {b : Int} (h : RO Γ T v (.int b)) : v = .int b := by
  cases h with
  | sh h => cases h; rfl
theorem RO.str {b : Str} (h : RO Γ T v (.str b)) : v = .str b := by
  cases h with
  | sh h => cases h; rfl
theorem RO.tup {l : List D} (ok : T.Ok) (h : RO Γ T v (.tup l)) : ∃ a vs, v = .ref a ∧ SqT Γ.K T.H a vs ∧ RA Γ T.H0 T.Hd vs l := by
  cases h with
  | sh h =>
    cases h with
    | tup h a => exact ⟨_, _, rfl, tT ok.s0 h, a⟩
theorem RO.lst {l : List D} (ok : T.Ok) (h : RO Γ T v (.lst l)) : ∃ a vs, v = .ref a ∧ T.H a = some (.lst vs) ∧ RA Γ T.H0 T.Hd vs l := by
  cases h with
  | sh h =>
    cases h with
    | lst h a => exact ⟨_, _, rfl, ok.s0 _ _ h, a⟩
  | li h a => exact ⟨_, _, rfl, h, a⟩
theorem RO.isNon {d : D} (h : RO Γ T v d) : v = .non ↔ d = .non := by
  cases h with
  | sh h => cases h <;> simp
  | li h a => simp
  | di h a => simp
theorem RO.dct {l : List (Key × D)} (ok : T.Ok) (h : RO Γ T v (.dct l)) : ∃ a vs, v = .ref a ∧ T.H a = some (.dK vs) ∧ RK Γ T.H0 T.Hd vs l := by
  cases h with
  | sh h =>
    cases h with
    | dct h a => exact ⟨_, _, rfl, ok.s0 _ _ h, a⟩
  | di h a => exact ⟨_, _, rfl, h, a⟩
theorem ROs.one {xs : List V} {d : D} (h : ROs Γ T xs [d]) : ∃ v, xs = [v] ∧ RO Γ T v d := by
  cases h with
  | cons h t => cases t; exact ⟨_, rfl, h⟩
theorem ROs.two {xs : List V} {d e : D} (h : ROs Γ T xs [d, e]) : ∃ v u, xs = [v, u] ∧ RO Γ T v d ∧ RO Γ T u e := by
  cases h with
  | cons h t =>
    obtain ⟨u, rfl, r⟩ := t.one
    exact ⟨_, _, rfl, h, r⟩
theorem ROs.three {xs : List V} {d e f : D} (h : ROs Γ T xs [d, e, f]) : ∃ v u w, xs = [v, u, w] ∧ RO Γ T v d ∧ RO Γ T u e ∧ RO Γ T w f := by
  cases h with
  | cons h t =>
    obtain ⟨u, w, rfl, r⟩ := t.two
    exact ⟨_, _, _, rfl, h, r⟩
theorem gr_sc {T : Wo} {Q' : VK} {d : D} {v : V} {Q : D → Prop} (ok : T.Ok) (q : ∀ v T' d, Gr T T' → R Γ T'.H0 T'.Hd v d → Q d → Q' v T'.H) (r : R Γ T.H0 T.Hd v d) (h : Q d) : Q' v T.H := q v T d (.refl ok) r h
theorem gr_new {T : Wo} {Q' : VK} {d : D} {p : Addr} {o : HO} {Q : D → Prop} (ok : T.Ok) (q : ∀ v T' d, Gr T T' → R Γ T'.H0 T'.Hd v d → Q d → Q' v T'.H) (n : T.H p = none) (r : R Γ (upd T.H0 p o) T.Hd (.ref p) d) (h : Q d) : Q' (.ref p) (upd T.H p o) := q _ _ d (Gr.new ok n) r h
theorem RA.newer {T : Wo} {p : Addr} {o : HO} {vs : List V} {l : List D} (ok : T.Ok) (n : T.H p = none) (h : RA Γ T.H0 T.Hd vs l) : RA Γ (upd T.H0 p o) T.Hd vs l := h.mono (same_new (none_of_le ok.s0 n)) fun _ h => h
theorem r_tup {T : Wo} {p : Addr} {vs : List V} {l : List D} (ok : T.Ok) (n : T.H p = none) (h : RA Γ T.H0 T.Hd vs l) : R Γ (upd T.H0 p (.tup vs)) T.Hd (.ref p) (.tup l) := .tup upd_same (h.newer ok n)
theorem r_lst {T : Wo} {p : Addr} {vs : List V} {l : List D} (ok : T.Ok) (n : T.H p = none) (h : RA Γ T.H0 T.Hd vs l) : R Γ (upd T.H0 p (.lst vs)) T.Hd (.ref p) (.lst l) := .lst upd_same (h.newer ok n)
end

/-! ### numbers -/
@[simp] def gI (f : Int → Int → Int) : G2
  | .int i, .int j, k => k (.int (f i j))
  | _, _, _ => False
@[simp] def gIc (C : Int → Int → Prop) (f : Int → Int → Int) : G2
  | .int i, .int j, k => C i j ∧ k (.int (f i j))
  | _, _, _ => False
@[simp] def gB (f : Int → Int → Bool) : G2
  | .int i, .int j, k => k (.bl (f i j))
  | _, _, _ => False
section
variable {Γ : Gx}
theorem os_I {f : Int → Int → Int} : OS Γ (rI0 fun i j => .int (f i j)) (gI f) := ⟨fun {T x y a b Q Q'} ok rx ry h q => by
  cases a <;> cases b <;> first | exact h.elim | skip
  obtain rfl := rx.int
  obtain rfl := ry.int
  exact ⟨_, _, rfl, rfl, gr_sc ok q (.int _) h⟩⟩
theorem os_Ic {C : Int → Int → Prop} {f : Int → Int → Int} : OS Γ (rI C fun i j => .int (f i j)) (gIc C f) := ⟨fun {T x y a b Q Q'} ok rx ry h q => by
  cases a <;> cases b <;> first | exact h.elim | skip
  obtain rfl := rx.int
  obtain rfl := ry.int
  exact ⟨_, _, rfl, rfl, h.1, gr_sc ok q (.int _) h.2⟩⟩
theorem os_B {f : Int → Int → Bool} : OS Γ (rI0 fun i j => .bl (f i j)) (gB f) := ⟨fun {T x y a b Q Q'} ok rx ry h q => by
  cases a <;> cases b <;> first | exact h.elim | skip
  obtain rfl := rx.int
  obtain rfl := ry.int
  exact ⟨_, _, rfl, rfl, gr_sc ok q (.bl _) h⟩⟩
end

/-! ### t + u from nothing -/
def rCatT0 (K : PySem.W.Frag) : R2 := fun x y H Q => ∃ a b ys, x = .ref a ∧ y = .ref b ∧ SqT K H a [] ∧ SqT K H b ys ∧ Q (.ref b) H
theorem op_catT0 {X : Cx} : OpR X (binaryOp .Add) (rCatT0 X.K) := by
  intro pins s σ H x y v u Q I rx ry h
  obtain ⟨a, b, ys, rfl, rfl, ha, hb, q⟩ := h
  cases rx
  cases ry
  obtain ⟨its, r1, p1, _⟩ := I.tuple ha
  obtain ⟨its2, r2, p2, _⟩ := I.tuple hb
  cases r1
  obtain ⟨⟨cls, dd, data, sl⟩, ho, hc, n, hd⟩ := id p1
  obtain ⟨⟨cls2, dd2, data2, sl2⟩, ho2, hc2, n2, hd2⟩ := id p2
  simp only at hc hd hc2 hd2
  subst hc hd hc2 hd2
  exact concat_meets ⟨_, ho, rfl⟩ ⟨_, ho2, rfl⟩ noFill_tuple_add seq_tuple_add PySem.F.slot_tuple_add PySem.F.entry_tuple_add (PySem.F.args_tuple_add_2 _ _)
      (tuple_addW0 a b _ its2.toArray n n2 dd dd2 sl sl2 (by simp)) ⟨ho, ho2, ⟨.ref b, H, I, rfl, q⟩⟩
abbrev rAddP (K : PySem.W.Frag) : R2 := fun x y H Q => rI0 (fun i j => .int (i + j)) x y H Q ∨ (rCatT K x y H Q ∨ (rCatT0 K x y H Q ∨ (rCat x y H Q ∨ (∃ i j, x = .str i ∧ y = .str j ∧ i.length + j.length ≤ sizeLine ∧ Q (.str (i ++ j)) H))))
theorem op_addP {X : Cx} {K : PySem.W.Frag} (h : X.K = K) : OpR X (binaryOp .Add) (rAddP K) := by subst h; exact opr_or op_add (opr_or op_catT (opr_or op_catT0 (opr_or op_cat op_add_str)))
@[simp] def gAdd : G2
  | .int i, .int j, k => k (.int (i + j))
  | .str i, .str j, k => i.length + j.length ≤ sizeLine ∧ k (.str (i ++ j))
  | .tup i, .tup j, k => i.length + j.length ≤ sizeLine ∧ k (.tup (i ++ j))
  | .lst i, .lst j, k => i.length + j.length ≤ sizeLine ∧ k (.lst (i ++ j))
  | _, _, _ => False
@[simp] def fCat : F2
  | .lst i, .lst j, k => i.length + j.length ≤ sizeLine ∧ k (i ++ j)
  | _, _, _ => False
section
variable {Γ : Gx}
theorem os_add : OS Γ (rAddP Γ.K) gAdd := ⟨fun {T x y a b Q Q'} ok rx ry h q => by
  cases a <;> cases b <;> first | exact h.elim | skip
  · obtain rfl := rx.int
    obtain rfl := ry.int
    exact .inl ⟨_, _, rfl, rfl, gr_sc ok q (.int _) h⟩
  · obtain rfl := rx.str
    obtain rfl := ry.str
    exact .inr (.inr (.inr (.inr ⟨_, _, rfl, rfl, h.1, gr_sc ok q (.str _) h.2⟩)))
  · obtain ⟨a, vs, rfl, ha, ra⟩ := rx.tup ok
    obtain ⟨b, us, rfl, hb, rb⟩ := ry.tup ok
    obtain ⟨hz, h⟩ := h
    rw [← ra.len, ← rb.len] at hz
    cases ra with
    | nil => 
      refine .inr (.inr (.inl ⟨_, _, _, rfl, rfl, ha, hb, ?_⟩))
      cases ry with
      | sh r => exact gr_sc ok q r h
    | cons r t =>
      refine .inr (.inl ⟨_, _, _, _, rfl, rfl, ha, hb, by simp, hz, fun e => ?_, fun e p n => gr_new ok q n (r_tup ok n ((RA.cons r t).app rb)) h⟩)
      subst e
      cases rb
      rw [List.append_nil] at h
      cases rx with
      | sh r => exact gr_sc ok q r h
  · obtain ⟨a, vs, rfl, ha, ra⟩ := rx.lst ok
    obtain ⟨b, us, rfl, hb, rb⟩ := ry.lst ok
    obtain ⟨hz, h⟩ := h
    rw [← ra.len, ← rb.len] at hz
    exact .inr (.inr (.inr (.inl ⟨_, _, _, _, rfl, rfl, ha, hb, hz, fun p n => gr_new ok q n (r_lst ok n (ra.app rb)) h⟩)))⟩
theorem os_cat : OSF Γ rCat fCat := ⟨fun {T x y a b Q Q'} ok rx ry h q => by
  cases a <;> cases b <;> first | exact h.elim | skip
  obtain ⟨a, vs, rfl, ha, ra⟩ := rx.lst ok
  obtain ⟨b, us, rfl, hb, rb⟩ := ry.lst ok
  obtain ⟨hz, h⟩ := h
  rw [← ra.len, ← rb.len] at hz
  exact ⟨_, _, _, _, rfl, rfl, ha, hb, hz, fun p n => q p _ _ n (ra.app rb) h⟩⟩
end

/-! ### data, equality -/
@[simp] def D.dat : Nat → D → Bool
  | _, .non => true
  | _, .bl _ => true
  | _, .int _ => true
  | _, .str z => PyData.strOk z
  | n + 1, .tup l => l.all (D.dat n)
  | n + 1, .lst l => l.all (D.dat n)
  | _, _ => false
mutual
def D.pd : D → PyData
  | .non => .none
  | .bl b => .bool b
  | .int i => .int i
  | .str z => .str z
  | .tup l => .tuple (D.pdL l)
  | .lst l => .list (D.pdL l)
  | _ => .none
def D.pdL : List D → List PyData
  | [] => []
  | d :: l => d.pd :: D.pdL l
end
theorem D.pdL_map : ∀ l : List D, D.pdL l = l.map D.pd
  | [] => rfl
  | d :: l => by rw [D.pdL, D.pdL_map l, List.map_cons]
def D.eqv (a b : D) : Bool := PyData.eqv a.pd b.pd
theorem dat_shape : ∀ {n : Nat} {d : D}, d.dat n = true → d.pd.canLay0 = true ∧ d.pd.depth ≤ n := by
  have hall : ∀ {n : Nat}, (∀ {d : D}, d.dat n = true → d.pd.canLay0 = true ∧ d.pd.depth ≤ n) → ∀ l : List D, l.all (D.dat n) = true → PyData.canLayAll0 (D.pdL l) = true ∧ PyData.depthAll (D.pdL l) ≤ n := by
    intro n ih l
    induction l with
    | nil => intro _; exact ⟨by simp [D.pdL, PyData.canLayAll0], by simp [D.pdL, PyData.depthAll]⟩
    | cons d l il =>
      intro h
      rw [List.all_cons, Bool.and_eq_true] at h
      obtain ⟨h1, h2⟩ := ih h.1
      obtain ⟨h3, h4⟩ := il h.2
      refine ⟨by simp [D.pdL, PyData.canLayAll0, h1, h3], ?_⟩
      simp only [D.pdL, PyData.depthAll]
      omega
  intro n
  induction n with
  | zero =>
    intro d h
    cases d with
    | str z =>
      have h2 : PyData.strOk z = true := h
      exact ⟨by simp [D.pd, PyData.canLay0, h2], Nat.le_refl _⟩
    | non => exact ⟨rfl, Nat.zero_le _⟩
    | bl b => exact ⟨rfl, Nat.zero_le _⟩
    | int b => exact ⟨rfl, Nat.zero_le _⟩
    | _ => cases h
  | succ n ih =>
    intro d h
    cases d with
    | non => exact ⟨rfl, Nat.zero_le _⟩
    | bl b => exact ⟨rfl, Nat.zero_le _⟩
    | int b => exact ⟨rfl, Nat.zero_le _⟩
    | str b =>
      have h2 : PyData.strOk b = true := h
      exact ⟨by simp [D.pd, PyData.canLay0, h2], Nat.zero_le _⟩
    | tup l =>
      obtain ⟨h1, h2⟩ := hall ih l (by rw [← h, D.dat])
      exact ⟨by simp [D.pd, PyData.canLay0, h1], by simp [D.pd, PyData.depth]; omega⟩
    | lst l =>
      obtain ⟨h1, h2⟩ := hall ih l (by rw [← h, D.dat])
      exact ⟨by simp [D.pd, PyData.canLay0, h1], by simp [D.pd, PyData.depth]; omega⟩
    | _ => cases h
theorem dat_shaped {n : Nat} {d : D} (hn : n ≤ 64) (h : d.dat n = true) : SeqAt.shaped d.pd = true := by
  obtain ⟨h1, h2⟩ := dat_shape h
  unfold SeqAt.shaped
  rw [h1, decide_eq_true (Nat.le_trans h2 hn)]
  rfl
section
variable {Γ : Gx} {T : Wo}
mutual
theorem R.dp (ok : T.Ok) : ∀ {v : V} {d : D} {n : Nat}, R Γ T.H0 T.Hd v d → d.dat n = true → Dp Γ.K T.H v d.pd
  | _, _, _, .non, _ => .non
  | _, _, _, .bl b, _ => .bl b
  | _, _, _, .int i, _ => .int i
  | _, _, _, .str z, _ => .str z
  | _, _, 0, .tup h a, e => nomatch e
  | _, _, n + 1, .tup h a, e => .tup (tT ok.s0 h) (RA.dp ok a (n := n) (by rw [← e, D.dat]))
  | _, _, 0, .lst h a, e => nomatch e
  | _, _, n + 1, .lst h a, e => .lst (SqL.of (ok.s0 _ _ h)) (RA.dp ok a (n := n) (by rw [← e, D.dat]))
  | _, _, 0, .obj _ _ _ _ _, e => nomatch e
  | _, _, _ + 1, .obj _ _ _ _ _, e => nomatch e
  | _, _, 0, .hnd _, e => nomatch e
  | _, _, _ + 1, .hnd _, e => nomatch e
  | _, _, 0, .scr _, e => nomatch e
  | _, _, _ + 1, .scr _, e => nomatch e
  | _, _, 0, .dct _ _, e => nomatch e
  | _, _, _ + 1, .dct _ _, e => nomatch e
  | _, _, 0, .set _, e => nomatch e
  | _, _, _ + 1, .set _, e => nomatch e
theorem RA.dp (ok : T.Ok) : ∀ {vs : List V} {l : List D} {n : Nat}, RA Γ T.H0 T.Hd vs l → l.all (D.dat n) = true → DpAll Γ.K T.H vs (D.pdL l)
  | _, _, _, .nil, _ => .nil
  | _, _, n, .cons (d := d) h t, e => by
    rw [List.all_cons, Bool.and_eq_true] at e
    exact .cons (R.dp ok h e.1) (RA.dp ok t e.2)
end
theorem RO.dp (ok : T.Ok) {v : V} {d : D} {n : Nat} (h : RO Γ T v d) (e : d.dat n = true) : Dp Γ.K T.H v d.pd := by
  cases h with
  | sh h => exact h.dp ok e
  | di h a => cases n <;> cases e
  | li h a =>
    cases n with
    | zero => cases e
    | succ n => exact .lst (SqL.of h) (RA.dp ok a (n := n) (by rw [← e, D.dat]))
/-- the bound on the depth of data that are compared -/
def dmax : Nat := 8
@[simp] def gEq : G2 := fun a b k => (a.dat dmax = true ∧ b.dat dmax = true) ∧ k (.bl (D.eqv a b))
@[simp] def gNe : G2 := fun a b k => (a.dat dmax = true ∧ b.dat dmax = true) ∧ k (.bl (!D.eqv a b))
theorem os_eq : OS Γ (rEqD Γ.K) gEq := ⟨fun {T x y a b Q Q'} ok rx ry h q =>
  ⟨_, _, rx.dp ok h.1.1, ry.dp ok h.1.2, dat_shaped (by decide) h.1.1, dat_shaped (by decide) h.1.2, gr_sc ok q (.bl _) h.2⟩⟩
theorem os_ne : OS Γ (rNeD Γ.K) gNe := ⟨fun {T x y a b Q Q'} ok rx ry h q =>
  ⟨_, _, rx.dp ok h.1.1, ry.dp ok h.1.2, dat_shaped (by decide) h.1.1, dat_shaped (by decide) h.1.2, gr_sc ok q (.bl _) h.2⟩⟩
/-! ### is None, is True -/
@[simp] def D.isNon : D → Bool
  | .non => true
  | _ => false
theorem isNon_iff {v : V} {d : D} (h : RO Γ T v d) : decide (v = .non) = d.isNon := by
  have e := h.isNon
  cases d <;> simp [D.isNon] at e ⊢ <;> exact e
@[simp] def gIsN : G2
  | a, .non, k => k (.bl a.isNon)
  | _, _, _ => False
@[simp] def gNotN : G2
  | a, .non, k => k (.bl (!a.isNon))
  | _, _, _ => False
theorem os_isN : OS Γ (fun x y H Q => y = .non ∧ Q (.bl (decide (x = .non))) H) gIsN := ⟨fun {T x y a b Q Q'} ok rx ry h q => by
  cases b <;> first | exact h.elim | skip
  refine ⟨ry.non, ?_⟩
  rw [isNon_iff rx]
  exact gr_sc ok q (.bl _) h⟩
theorem os_notN : OS Γ (fun x y H Q => y = .non ∧ Q (.bl (!decide (x = .non))) H) gNotN := ⟨fun {T x y a b Q Q'} ok rx ry h q => by
  cases b <;> first | exact h.elim | skip
  refine ⟨ry.non, ?_⟩
  rw [isNon_iff rx]
  exact gr_sc ok q (.bl _) h⟩
@[simp] def gIsB : G2
  | .bl a, .bl b, k => k (.bl (decide (a = b)))
  | _, _, _ => False
theorem os_isB : OS Γ rIsB gIsB := ⟨fun {T x y a b Q Q'} ok rx ry h q => by
  cases a <;> cases b <;> first | exact h.elim | skip
  exact ⟨_, _, rx.bl, ry.bl, gr_sc ok q (.bl _) h⟩⟩
/-! ### in -/
@[simp] def D.flat : D → Bool
  | .non => true
  | .bl _ => true
  | .int _ => true
  | .str _ => true
  | _ => false
theorem R.flat {v : V} {d : D} {H0 Hd : Hp} (h : R Γ H0 Hd v d) (f : d.flat = true) : flatV v = true := by cases h <;> first | rfl | cases f
theorem R.eqf {v u : V} {d e : D} {H0 Hd H0' Hd' : Hp} (h : R Γ H0 Hd v d) (h' : R Γ H0' Hd' u e) (f : d.flat = true) (f' : e.flat = true) : eqV v u = D.eqv d e := by
  cases h <;> first | cases f | skip
  all_goals (cases h' <;> first | cases f' | skip)
  all_goals (unfold D.eqv D.pd; simp only [eqV, PyData.eqv])
theorem RA.flat {H0 Hd : Hp} : ∀ {vs : List V} {l : List D}, RA Γ H0 Hd vs l → l.all D.flat = true → vs.all flatV = true
  | _, _, .nil, _ => rfl
  | _, _, .cons h t, e => by
    rw [List.all_cons, Bool.and_eq_true] at e ⊢
    exact ⟨h.flat e.1, t.flat e.2⟩
theorem RA.inV {H0 Hd H0' Hd' : Hp} {u : V} {e : D} (h' : R Γ H0' Hd' u e) (f' : e.flat = true) : ∀ {vs : List V} {l : List D}, RA Γ H0 Hd vs l → l.all D.flat = true → inV u vs = l.any fun y => D.eqv y e
  | _, _, .nil, _ => rfl
  | _, _, .cons h t, f => by
    rw [List.all_cons, Bool.and_eq_true] at f
    show (_ || _) = _
    dsimp only
    rw [List.any_cons, h.eqf h' f.1 f', ← RA.inV h' f' t f.2]
    rfl
def D.mem (x : D) (l : List D) : Bool := l.any fun y => D.eqv y x
@[simp] def gIn : G2
  | x, .lst l, k => (x.flat = true ∧ l.all D.flat = true) ∧ k (.bl (x.mem l))
  | x, .tup l, k => (x.flat = true ∧ l.all D.flat = true) ∧ k (.bl (x.mem l))
  | _, _, _ => False
@[simp] def gNotIn : G2
  | x, .lst l, k => (x.flat = true ∧ l.all D.flat = true) ∧ k (.bl (!x.mem l))
  | x, .tup l, k => (x.flat = true ∧ l.all D.flat = true) ∧ k (.bl (!x.mem l))
  | _, _, _ => False
theorem RO.fl {v : V} {d : D} (h : RO Γ T v d) (f : d.flat = true) : R Γ T.H0 T.Hd v d := by
  cases h with
  | sh h => exact h
  | li _ _ => cases f
  | di _ _ => cases f
theorem os_in : OS Γ (rIn Γ.K false) gIn := ⟨fun {T x y a b Q Q'} ok rx ry h q => by
  cases b <;> first | exact h.elim | skip
  · obtain ⟨p, vs, rfl, hp, rp⟩ := ry.tup ok
    obtain ⟨⟨f1, f2⟩, h⟩ := h
    refine ⟨p, vs, rfl, .inr hp, (rx.fl f1).flat f1, rp.flat f2, ?_⟩
    rw [if_neg Bool.false_ne_true, rp.inV (rx.fl f1) f1 f2]
    exact gr_sc ok q (.bl _) h
  · obtain ⟨p, vs, rfl, hp, rp⟩ := ry.lst ok
    obtain ⟨⟨f1, f2⟩, h⟩ := h
    refine ⟨p, vs, rfl, .inl (SqL.of hp), (rx.fl f1).flat f1, rp.flat f2, ?_⟩
    rw [if_neg Bool.false_ne_true, rp.inV (rx.fl f1) f1 f2]
    exact gr_sc ok q (.bl _) h⟩
theorem os_notIn : OS Γ (rIn Γ.K true) gNotIn := ⟨fun {T x y a b Q Q'} ok rx ry h q => by
  cases b <;> first | exact h.elim | skip
  · obtain ⟨p, vs, rfl, hp, rp⟩ := ry.tup ok
    obtain ⟨⟨f1, f2⟩, h⟩ := h
    refine ⟨p, vs, rfl, .inr hp, (rx.fl f1).flat f1, rp.flat f2, ?_⟩
    rw [if_pos rfl, rp.inV (rx.fl f1) f1 f2]
    exact gr_sc ok q (.bl _) h
  · obtain ⟨p, vs, rfl, hp, rp⟩ := ry.lst ok
    obtain ⟨⟨f1, f2⟩, h⟩ := h
    refine ⟨p, vs, rfl, .inl (SqL.of hp), (rx.fl f1).flat f1, rp.flat f2, ?_⟩
    rw [if_pos rfl, rp.inV (rx.fl f1) f1 f2]
    exact gr_sc ok q (.bl _) h⟩
/-! ### items -/
def oK {α : Type} : Option α → (α → Prop) → Prop
  | some x, k => k x
  | none, _ => False
@[simp] theorem oK_some {α : Type} {x : α} {k : α → Prop} : oK (some x) k ↔ k x := Iff.rfl
@[simp] theorem oK_none {α : Type} {k : α → Prop} : oK (none : Option α) k ↔ False := Iff.rfl
theorem oK_of {α : Type} {o : Option α} {k : α → Prop} (h : oK o k) : ∃ x, o = some x ∧ k x := by
  cases o with
  | some x => exact ⟨x, rfl, h⟩
  | none => exact h.elim
theorem RA.atI {H0 Hd : Hp} {vs : List V} {l : List D} {i : Int} {d : D} (h : RA Γ H0 Hd vs l) (e : atI l i = some d) : ∃ v, L2.atI vs i = some v ∧ R Γ H0 Hd v d := by
  unfold L2.atI at e ⊢
  rw [h.len]
  cases z : ixN l.length i with
  | none => rw [z] at e; cases e
  | some j =>
    rw [z] at e
    exact h.get e
@[simp] def gIx : G2
  | .lst l, .int i, k => oK (atI l i) k
  | .tup l, .int i, k => oK (atI l i) k
  | .str z, .int i, k => z.length ≤ sizeLine ∧ oK (atI z.cps.toList i) fun c => k (.str ⟨#[c]⟩)
  | _, _, _ => False
theorem kix_seq {X : Cx} {K : PySem.W.Frag} (h : X.K = K) : IxR X (rIx K) := by subst h; exact ix_seq
theorem os_ix : OS Γ (rIx Γ.K) gIx := ⟨fun {T x y a b Q Q'} ok rx ry h q => by
  cases a <;> cases b <;> first | exact h.elim | skip
  · obtain rfl := rx.str
    obtain rfl := ry.int
    obtain ⟨h1, h⟩ := h
    obtain ⟨c, hc, h⟩ := oK_of h
    exact .inr (.inr ⟨_, _, c, rfl, rfl, h1, hc, gr_sc ok q (.str _) h⟩)
  · obtain ⟨p, vs, rfl, hp, rp⟩ := rx.tup ok
    obtain rfl := ry.int
    obtain ⟨c, hc, h⟩ := oK_of h
    obtain ⟨v, hv, r⟩ := rp.atI hc
    exact .inr (.inl ⟨p, vs, _, v, rfl, rfl, hp, hv, gr_sc ok q r h⟩)
  · obtain ⟨p, vs, rfl, hp, rp⟩ := rx.lst ok
    obtain rfl := ry.int
    obtain ⟨c, hc, h⟩ := oK_of h
    obtain ⟨v, hv, r⟩ := rp.atI hc
    exact .inl ⟨p, vs, _, v, rfl, rfl, SqL.of hp, hv, gr_sc ok q r h⟩⟩
end
end Vl

namespace Vl
open PySem PySem.Spec PyProof.Rows L2 Hl

section
variable {Γ : Gx} {X : Cx} {T : Wo} {σ : L2.St} {ρ : Vn}
theorem ARs.ext {T' : Wo} : ∀ {vs : List V} {as : List AI}, ARs Γ T σ vs as → Ext Γ T T' → ARs Γ T' σ vs as
  | _, _, .nil, _ => .nil
  | _, _, .cons h t, e => .cons (h.ext e) (t.ext e)
/-- what a new list's place is -/
theorem fresh_priv {p : Addr} (S : Sv Γ T σ ρ) (n : T.H p = none) : ∀ (j : Nat) (c : Cell), ρ[j]? = some c → c.priv = true → σ[j]? ≠ some (some (.ref p)) := by
  intro j c e pc z
  obtain ⟨s, e1, r⟩ := S.cell j c e
  rw [z] at e1
  cases e1
  cases c with
  | own l => obtain ⟨q, vs, e2, e3, _⟩ := r; cases e2; rw [n] at e3; cases e3
  | obj q c l => obtain ⟨C, dx, vs, e2, e3, _⟩ := r; cases e2; rw [n] at e3; cases e3
  | dic l => obtain ⟨q, vs, e2, e3, _⟩ := r; cases e2; rw [n] at e3; cases e3
  | dit l => obtain ⟨q, vs, e2, e3, _⟩ := r; cases e2; rw [n] at e3; cases e3
  | pin q l => obtain ⟨vs, e2, _, e3, _⟩ := r; cases e2; rw [none_of_le S.ok.sF n] at e3; cases e3
  | _ => cases pc
/-! ### operators -/
@[simp] def wOp (g : G2) (wa wb : WO) : WE := fun ρ Q => wa ρ fun a ρ1 => wb ρ1 fun b ρ2 => rs1 ρ2 a fun x => rs1 ρ2 b fun y => g x y fun z => Q z ρ2
@[simp] def wOpF (g : F2) (wa wb : WO) : WF := fun ρ Q => wa ρ fun a ρ1 => wb ρ1 fun b ρ2 => rs1 ρ2 a fun x => rs1 ρ2 b fun y => g x y fun z => Q z ρ2
theorem se_op {r : R2} {g : G2} {ta tb : TE} {wa wb : WO} (o : OS Γ r g) (ha : SO Γ ta wa) (hb : SO Γ tb wb) : SE Γ (tOp r ta tb) (wOp g wa wb) := ⟨fun {T σ ρ Q Q'} S h q =>
  ha.h S h fun x T1 a ρ1 S1 e1 r1 q1 => hb.h S1 q1 fun y T2 b ρ2 S2 e2 r2 q2 => by
    obtain ⟨dx, rx, q2⟩ := S2.rs1 (r1.ext e2) q2
    obtain ⟨dy, ry, q2⟩ := S2.rs1 r2 q2
    exact o.h S2.ok rx ry q2 fun v T3 d g3 r3 q3 => q v T3 d ρ2 (S2.grow g3) ((e1.trans e2).trans g3.ext) r3 q3⟩
theorem sf_new {p : Addr} {vs : List V} {l : List D} {T1 : Wo} {ρ2 : Vn} {Q : List D → Vn → Prop} {Q' : VK} (S2 : Sv Γ T σ ρ2) (e : Ext Γ T1 T)
    (q : ∀ p vs T' l ρ', Sv Γ T' σ ρ' → Ext Γ T1 T' → T'.H p = some (.lst vs) → T'.F p = none → T'.H0 p = none → T'.Hd p = none → (∀ (j : Nat) (c : Cell), ρ'[j]? = some c → c.priv = true → σ[j]? ≠ some (some (.ref p))) → RA Γ T'.H0 T'.Hd vs l → Q l ρ' → Q' (.ref p) T'.H)
    (n : T.H p = none) (r : RA Γ T.H0 T.Hd vs l) (h : Q l ρ2) : Q' (.ref p) (upd T.H p (.lst vs)) := by
  have g := Gr.priv (o := .lst vs) S2.ok n
  exact q p vs ⟨T.F, T.H0, T.Hd, upd T.H p (.lst vs), T.P⟩ l ρ2 (S2.grow g) (e.trans g.ext) upd_same (none_of_le S2.ok.sF n) (none_of_le S2.ok.s0 n) (none_of_le S2.ok.sd n) (fresh_priv S2 n) r h
theorem sf_op {r : R2} {g : F2} {ta tb : TE} {wa wb : WO} (o : OSF Γ r g) (ha : SO Γ ta wa) (hb : SO Γ tb wb) : SF Γ (tOp r ta tb) (wOpF g wa wb) := ⟨fun {T σ ρ Q Q'} S h q =>
  ha.h S h fun x T1 a ρ1 S1 e1 r1 q1 => hb.h S1 q1 fun y T2 b ρ2 S2 e2 r2 q2 => by
    obtain ⟨dx, rx, q2⟩ := S2.rs1 (r1.ext e2) q2
    obtain ⟨dy, ry, q2⟩ := S2.rs1 r2 q2
    exact o.h S2.ok rx ry q2 fun p vs l n r3 q3 => sf_new S2 (e1.trans e2) q n r3 q3⟩
variable {a b : Expr} {ta tb : TE} {wa wb : WO} {pos : Pos}
theorem ve_op {op : Operator} {r : R2} {g : G2} (h : OpR X (binaryOp op) r) (o : OS Γ r g) (ha : VO Γ X a ta wa) (hb : VO Γ X b tb wb) : VE Γ X (.BinOp a op b pos) (tOp r ta tb) (wOp g wa wb) := ⟨pe_op h ha.pe hb.pe, se_op o ha.se hb.se⟩
theorem vf_op {op : Operator} {r : R2} {g : F2} (h : OpR X (binaryOp op) r) (o : OSF Γ r g) (ha : VO Γ X a ta wa) (hb : VO Γ X b tb wb) : VF Γ X (.BinOp a op b pos) (tOp r ta tb) (wOpF g wa wb) := ⟨pe_op h ha.pe hb.pe, sf_op o ha.se hb.se⟩
theorem ve_cmp {op : CmpOp} {r : R2} {g : G2} (h : OpR X (compareOp op) r) (o : OS Γ r g) (ha : VO Γ X a ta wa) (hb : VO Γ X b tb wb) (hm : behindInMarks op b = false) : VE Γ X (.Compare a [op] [b] pos) (tOp r ta tb) (wOp g wa wb) := ⟨pe_cmpR h ha.pe hb.pe hm, se_op o ha.se hb.se⟩
/-- a value as a test -/
@[simp] def cBl : D → (Bool → Prop) → Prop
  | .bl b, k => k b
  | _, _ => False
theorem cBl_of {d : D} {k : Bool → Prop} (h : cBl d k) : ∃ b, d = .bl b ∧ k b := by
  cases d with
  | bl b => exact ⟨b, rfl, h⟩
  | _ => exact h.elim
@[simp] def wTst (w : WE) : WT := fun ρ Q => w ρ fun d ρ1 => cBl d fun b => Q b ρ1
theorem st_tst {t : TE} {w : WE} (h : SE Γ t w) : ST Γ (tTest t) (wTst w) := ⟨fun {T σ ρ Q Q'} S hw q => h.h S hw fun v T1 d ρ1 S1 e1 r1 q1 => by
  obtain ⟨b, rfl, q1⟩ := cBl_of q1
  cases r1
  exact ⟨b, rfl, q b T1 ρ1 S1 e1 q1⟩⟩
theorem vt_cmp {op : CmpOp} {r : R2} {g : G2} (h : OpR X (compareOp op) r) (o : OS Γ r g) (ha : VO Γ X a ta wa) (hb : VO Γ X b tb wb) (hm : behindInMarks op b = false) : VT Γ X (.Compare a [op] [b] pos) (tTest (tOp r ta tb)) (wTst (wOp g wa wb)) := ⟨pt_cmpR h ha.pe hb.pe hm, st_tst (se_op o ha.se hb.se)⟩
/-- a < b < c -/
@[simp] def wChain (g g' : G2) (wa wb wc : WE) : WE := fun ρ Q => wa ρ fun x ρ1 => wb ρ1 fun y ρ2 => g x y fun z => cBl z fun k => (k = true → wc ρ2 fun u ρ3 => g' y u fun z' => Q z' ρ3) ∧ (k = false → Q (.bl false) ρ2)
theorem se_chain {r r' : R2} {g g' : G2} {ta tb tc : TE} {wa wb wc : WE} (o : OS Γ r g) (o' : OS Γ r' g') (ha : SE Γ ta wa) (hb : SE Γ tb wb) (hc : SE Γ tc wc) : SE Γ (tChain r r' ta tb tc) (wChain g g' wa wb wc) := ⟨fun {T σ ρ Q Q'} S h q =>
  ha.h S h fun x T1 dx ρ1 S1 e1 r1 q1 => hb.h S1 q1 fun y T2 dy ρ2 S2 e2 r2 q2 => o.h S2.ok (.sh (r1.ext e2)) (.sh r2) q2 fun z T3 dz g3 r3 q3 => by
    obtain ⟨k, rfl, q3⟩ := cBl_of q3
    cases r3
    refine ⟨k, rfl, ?_⟩
    have S3 := S2.grow g3
    have e3 := (e1.trans e2).trans g3.ext (Γ := Γ)
    cases k with
    | true => exact iteT (hc.h S3 (q3.1 rfl) fun u T4 du ρ4 S4 e4 r4 q4 => o'.h S4.ok (.sh ((r2.ext g3.ext).ext e4)) (.sh r4) q4 fun v T5 d g5 r5 q5 => q v T5 d ρ4 (S4.grow g5) ((e3.trans e4).trans g5.ext) r5 q5)
    | false => exact iteF (q (.bl false) T3 (.bl false) ρ2 S3 e3 (.bl false) (q3.2 rfl))⟩
theorem ve_chain {op op' : CmpOp} {r r' : R2} {g g' : G2} {c : Expr} {tc : TE} {wa wb wc : WE} (h : OpR X (compareOp op) r) (h' : OpR X (compareOp op') r') (o : OS Γ r g) (o' : OS Γ r' g') (ha : VE Γ X a ta wa) (hb : VE Γ X b tb wb) (hc : VE Γ X c tc wc)
    (hm : lastMarks [op, op'] [b, c] = false := by with_unfolding_all rfl) : VE Γ X (.Compare a [op, op'] [b, c] pos) (tChain r r' ta tb tc) (wChain g g' wa wb wc) := ⟨pe_chain h h' ha.pe hb.pe hc.pe hm, se_chain o o' ha.se hb.se hc.se⟩
theorem vt_chain {op op' : CmpOp} {r r' : R2} {g g' : G2} {c : Expr} {tc : TE} {wa wb wc : WE} (h : OpR X (compareOp op) r) (h' : OpR X (compareOp op') r') (o : OS Γ r g) (o' : OS Γ r' g') (ha : VE Γ X a ta wa) (hb : VE Γ X b tb wb) (hc : VE Γ X c tc wc)
    (hm : lastMarks [op, op'] [b, c] = false := by with_unfolding_all rfl) : VT Γ X (.Compare a [op, op'] [b, c] pos) (tTest (tChain r r' ta tb tc)) (wTst (wChain g g' wa wb wc)) := ⟨pt_chain h h' ha.pe hb.pe hc.pe hm, st_tst (se_chain o o' ha.se hb.se hc.se)⟩
/-! ### unary -/
@[simp] def gNeg : G1
  | .int i, k => k (.int (-i))
  | _, _ => False
@[simp] def wUn (g : G1) (w : WE) : WE := fun ρ Q => w ρ fun d ρ1 => g d fun z => Q z ρ1
theorem ve_neg {w : WE} (ha : VE Γ X a ta w) : VE Γ X (.UnaryOp .USub a pos) (tUn (rU fun i => .int (-i)) ta) (wUn gNeg w) := ⟨pe_un un_neg ha.pe, ⟨fun {T σ ρ Q Q'} S h q => ha.se.h S h fun x T1 d ρ1 S1 e1 r1 q1 => by
  cases d <;> first | exact q1.elim | skip
  cases r1
  exact ⟨_, rfl, q _ T1 _ ρ1 S1 e1 (.int _) q1⟩⟩⟩
@[simp] def gNot : G1
  | .bl i, k => k (.bl (!i))
  | _, _ => False
theorem ve_not {w : WE} (ha : VE Γ X a ta w) : VE Γ X (.UnaryOp .Not a pos) (tNotV ta) (wUn gNot w) := ⟨pe_not ha.pe, ⟨fun {T σ ρ Q Q'} S h q => ha.se.h S h fun x T1 d ρ1 S1 e1 r1 q1 => by
  cases d <;> first | exact q1.elim | skip
  cases r1
  exact ⟨_, rfl, q _ T1 _ ρ1 S1 e1 (.bl _) q1⟩⟩⟩
/-! ### tests -/
@[simp] def wAnd (w u : WT) : WT := fun ρ Q => w ρ fun c ρ1 => (c = true → u ρ1 Q) ∧ (c = false → Q false ρ1)
@[simp] def wOr (w u : WT) : WT := fun ρ Q => w ρ fun c ρ1 => (c = true → Q true ρ1) ∧ (c = false → u ρ1 Q)
@[simp] def wNot (w : WT) : WT := fun ρ Q => w ρ fun c ρ1 => Q (!c) ρ1
section
variable {t u : TT} {w z : WT} {e : Expr} {es : List Expr}
theorem st_and (h : ST Γ t w) (h' : ST Γ u z) : ST Γ (tAnd t u) (wAnd w z) := ⟨fun {T σ ρ Q Q'} S hw q => h.h S hw fun c T1 ρ1 S1 e1 q1 => by
  cases c with
  | true => exact iteT (h'.h S1 (q1.1 rfl) fun b T2 ρ2 S2 e2 q2 => q b T2 ρ2 S2 (e1.trans e2) q2)
  | false => exact iteF (q false T1 ρ1 S1 e1 (q1.2 rfl))⟩
theorem st_or (h : ST Γ t w) (h' : ST Γ u z) : ST Γ (tOr t u) (wOr w z) := ⟨fun {T σ ρ Q Q'} S hw q => h.h S hw fun c T1 ρ1 S1 e1 q1 => by
  cases c with
  | true => exact iteT (q true T1 ρ1 S1 e1 (q1.1 rfl))
  | false => exact iteF (h'.h S1 (q1.2 rfl) fun b T2 ρ2 S2 e2 q2 => q b T2 ρ2 S2 (e1.trans e2) q2)⟩
theorem st_not (h : ST Γ t w) : ST Γ (tNot t) (wNot w) := ⟨fun {T σ ρ Q Q'} S hw q => h.h S hw fun c T1 ρ1 S1 e1 q1 => q _ T1 ρ1 S1 e1 q1⟩
theorem VW.vt (h : VW Γ X e t w) : VT Γ X e t w := ⟨h.pe.pt, h.se⟩
theorem vt_not (h : VT Γ X e t w) : VT Γ X (.UnaryOp .Not e pos) (tNot t) (wNot w) := ⟨pt_not h.pe, st_not h.se⟩
/-- any value's truth -/
@[simp] def cTru : D → (Bool → Prop) → Prop
  | .non, k => k false
  | .bl b, k => k b
  | .int i, k => k (i != 0)
  | .tup l, k => k (!l.isEmpty)
  | .lst l, k => k (!l.isEmpty)
  | .str z, k => z.length ≤ sizeLine ∧ k ((z.length : Int) != 0)
  | _, _ => False
@[simp] def wTru (w : WO) : WT := fun ρ Q => w ρ fun a ρ1 => rs1 ρ1 a fun d => cTru d fun b => Q b ρ1
theorem isEmpty_len {α β : Type} : ∀ {l : List α} {m : List β}, l.length = m.length → l.isEmpty = m.isEmpty
  | [], [], _ => rfl
  | _ :: _, _ :: _, _ => rfl
theorem vt_tru {te : TE} {we : WO} (hK : X.K = Γ.K) (h : VO Γ X e te we) (he : ∀ whole, isTrue e X.env whole = (do let v ← whole; standAt e.pos; holding [v] (truthy v)) := by intro _; rfl) :
    VT Γ X e (fun σ H Q => te σ H fun x H' => ∃ k, TruV Γ.K x H' k ∧ Q k H') (wTru we) := ⟨by rw [← hK]; exact pt_truth h.pe he, ⟨fun {T σ ρ Q Q'} S hw q => h.se.h S hw fun v T1 a ρ1 S1 e1 r1 q1 => by
  obtain ⟨d, r, q1⟩ := S1.rs1 r1 q1
  cases d with
  | non => cases r.non; exact ⟨_, rfl, q _ T1 ρ1 S1 e1 q1⟩
  | bl b => cases r.bl; exact ⟨_, rfl, q _ T1 ρ1 S1 e1 q1⟩
  | int b => cases r.int; exact ⟨_, rfl, q _ T1 ρ1 S1 e1 q1⟩
  | str b => cases r.str; exact ⟨_, ⟨q1.1, rfl⟩, q _ T1 ρ1 S1 e1 q1.2⟩
  | tup l =>
    obtain ⟨p, vs, rfl, hp, rp⟩ := r.tup S1.ok
    refine ⟨!l.isEmpty, .inr (.inl ⟨vs, hp, by rw [isEmpty_len rp.len]⟩), q _ T1 ρ1 S1 e1 q1⟩
  | lst l =>
    obtain ⟨p, vs, rfl, hp, rp⟩ := r.lst S1.ok
    refine ⟨!l.isEmpty, .inl ⟨vs, SqL.of hp, by rw [isEmpty_len rp.len]⟩, q _ T1 ρ1 S1 e1 q1⟩
  | _ => exact q1.elim⟩⟩
/-- and, or of values, all but the last True or False; an if-expression -/
@[simp] def wAndV (w u : WE) : WE := fun ρ Q => w ρ fun d ρ1 => cBl d fun c => (c = true → u ρ1 Q) ∧ (c = false → Q (.bl false) ρ1)
@[simp] def wOrV (w u : WE) : WE := fun ρ Q => w ρ fun d ρ1 => cBl d fun c => (c = true → Q (.bl true) ρ1) ∧ (c = false → u ρ1 Q)
@[simp] def wIfE (c : WT) (w u : WE) : WE := fun ρ Q => c ρ fun c ρ1 => (c = true → w ρ1 Q) ∧ (c = false → u ρ1 Q)
theorem se_andV {t u : TE} {w z : WE} (h : SE Γ t w) (h' : SE Γ u z) : SE Γ (tAndV t u) (wAndV w z) := ⟨fun {T σ ρ Q Q'} S hw q => h.h S hw fun v T1 d ρ1 S1 e1 r1 q1 => by
  obtain ⟨c, rfl, q1⟩ := cBl_of q1
  cases r1
  refine ⟨c, rfl, ?_⟩
  cases c with
  | true => exact iteT (h'.h S1 (q1.1 rfl) fun v T2 d ρ2 S2 e2 r2 q2 => q v T2 d ρ2 S2 (e1.trans e2) r2 q2)
  | false => exact iteF (q _ T1 _ ρ1 S1 e1 (.bl false) (q1.2 rfl))⟩
theorem se_orV {t u : TE} {w z : WE} (h : SE Γ t w) (h' : SE Γ u z) : SE Γ (tOrV t u) (wOrV w z) := ⟨fun {T σ ρ Q Q'} S hw q => h.h S hw fun v T1 d ρ1 S1 e1 r1 q1 => by
  obtain ⟨c, rfl, q1⟩ := cBl_of q1
  cases r1
  refine ⟨c, rfl, ?_⟩
  cases c with
  | true => exact iteT (q _ T1 _ ρ1 S1 e1 (.bl true) (q1.1 rfl))
  | false => exact iteF (h'.h S1 (q1.2 rfl) fun v T2 d ρ2 S2 e2 r2 q2 => q v T2 d ρ2 S2 (e1.trans e2) r2 q2)⟩
theorem se_ifE {t : TT} {ta tb : TE} {w : WT} {wa wb : WE} (h : ST Γ t w) (ha : SE Γ ta wa) (hb : SE Γ tb wb) : SE Γ (tIf t ta tb) (wIfE w wa wb) := ⟨fun {T σ ρ Q Q'} S hw q => h.h S hw fun c T1 ρ1 S1 e1 q1 => by
  cases c with
  | true => exact iteT (ha.h S1 (q1.1 rfl) fun v T2 d ρ2 S2 e2 r2 q2 => q v T2 d ρ2 S2 (e1.trans e2) r2 q2)
  | false => exact iteF (hb.h S1 (q1.2 rfl) fun v T2 d ρ2 S2 e2 r2 q2 => q v T2 d ρ2 S2 (e1.trans e2) r2 q2)⟩
theorem ve_ifE {c x y : Expr} {t : TT} {ta tb : TE} {w : WT} {wa wb : WE} (h : VT Γ X c t w) (ha : VE Γ X x ta wa) (hb : VE Γ X y tb wb) : VE Γ X (.IfExp c x y pos) (tIf t ta tb) (wIfE w wa wb) := ⟨pe_ifExp h.pe ha.pe hb.pe, se_ifE h.se ha.se hb.se⟩
end
/-! ### arguments, displays -/
@[simp] def wNil : WA := fun ρ Q => Q [] ρ
@[simp] def wCons (w : WO) (u : WA) : WA := fun ρ Q => w ρ fun a ρ1 => u ρ1 fun as ρ2 => Q (a :: as) ρ2
section
variable {e : Expr} {es : List Expr} {te : TE} {t : TA} {we : WO} {w : WA}
theorem va_nil : VA Γ X [] tNil wNil := ⟨pa_nil, ⟨fun {T σ ρ Q Q'} S h q => q [] T [] ρ S .refl .nil h⟩⟩
theorem va_cons (h : VO Γ X e te we) (h' : VA Γ X es t w) (hs : starEach (e :: es) X.env = (false, eval e X.env) :: starEach es X.env := by rfl) : VA Γ X (e :: es) (tCons te t) (wCons we w) := ⟨pa_cons h.pe h'.pe hs, ⟨fun {T σ ρ Q Q'} S hw q =>
  h.se.h S hw fun v T1 a ρ1 S1 e1 r1 q1 => h'.se.h S1 q1 fun vs T2 as ρ2 S2 e2 r2 q2 => q (v :: vs) T2 (a :: as) ρ2 S2 (e1.trans e2) (.cons (r1.ext e2) r2) q2⟩⟩
/-- all of them shared -/
@[simp] def shN : List AI → (List D → Prop) → Prop
  | [], k => k []
  | .d d :: r, k => shN r fun ds => k (d :: ds)
  | .sl _ :: _, _ => False
theorem shN_of {T : Wo} {σ : L2.St} : ∀ {vs : List V} {as : List AI} {k : List D → Prop}, ARs Γ T σ vs as → shN as k → ∃ ds, RA Γ T.H0 T.Hd vs ds ∧ k ds
  | _, _, _, .nil, h => ⟨[], .nil, h⟩
  | _, .d d :: _, _, .cons a r, h => by
    obtain ⟨ds, r2, h⟩ := shN_of r h
    exact ⟨d :: ds, .cons a r2, h⟩
@[simp] def wTup (w : WA) : WE := fun ρ Q => w ρ fun as ρ1 => shN as fun ds => ds.length ≤ sizeLine ∧ Q (.tup ds) ρ1
@[simp] def wLst (w : WA) : WF := fun ρ Q => w ρ fun as ρ1 => shN as fun ds => ds.length ≤ sizeLine ∧ Q ds ρ1
theorem ve_tup {x1} (h : VA Γ X es t w) : VE Γ X (.Tuple es x1 pos) (tTup t) (wTup w) := ⟨pe_tup h.pe, ⟨fun {T σ ρ Q Q'} S hw q => h.se.h S hw fun vs T1 as ρ1 S1 e1 r1 q1 => by
  obtain ⟨ds, r, hz, q1⟩ := shN_of r1 q1
  rw [← r.len] at hz
  refine ⟨hz, fun p n => ?_⟩
  have g := Gr.new (o := .tup vs) S1.ok n
  exact q _ _ _ ρ1 (S1.grow g) (e1.trans g.ext) (r_tup S1.ok n r) q1⟩⟩
theorem vf_lst (h : VA Γ X es t w) : VF Γ X (.List es pos) (tLst t) (wLst w) := ⟨pe_lst h.pe, ⟨fun {T σ ρ Q Q'} S hw q => h.se.h S hw fun vs T1 as ρ1 S1 e1 r1 q1 => by
  obtain ⟨ds, r, hz, q1⟩ := shN_of r1 q1
  rw [← r.len] at hz
  exact ⟨hz, fun p n => sf_new S1 e1 q n r q1⟩⟩⟩
/-- a new list is shared -/
@[simp] def wFz (w : WF) : WE := fun ρ Q => w ρ fun l ρ1 => Q (.lst l) ρ1
theorem Sv.freezeNew {p : Addr} {o : HO} (S : Sv Γ T σ ρ) (hp : T.H p = some o) (nF : T.F p = none) (n0 : T.H0 p = none) (nd : T.Hd p = none) (hn : ∀ (j : Nat) (c : Cell), ρ[j]? = some c → c.priv = true → σ[j]? ≠ some (some (.ref p))) :
    Sv Γ ⟨T.F, upd T.H0 p o, T.Hd, T.H, T.P⟩ σ ρ ∧ Ext Γ T ⟨T.F, upd T.H0 p o, T.Hd, T.H, T.P⟩ := by
  have E : Ext Γ T ⟨T.F, upd T.H0 p o, T.Hd, T.H, T.P⟩ := ⟨rfl, rfl, same_new n0, fun _ h => h⟩
  refine ⟨⟨⟨S.ok.sF, fun b x e => ?_, S.ok.sd, fun {b x} e => ?_, S.ok.Fd, fun {b x} e => ?_, S.ok.ft, S.ok.dt⟩, S.len, fun i c e => ?_, S.dist⟩, E⟩
  · dsimp only at e ⊢
    by_cases hb : b = p
    · subst hb; rw [upd_same] at e; cases e; exact hp
    · rw [upd_ne hb] at e; exact S.ok.s0 _ _ e
  · dsimp only at e ⊢
    have hb : b ≠ p := fun z => by rw [z, nF] at e; cases e
    rw [upd_ne hb]; exact S.ok.F0 e
  · dsimp only at e ⊢
    by_cases hb : b = p
    · subst hb; exact nd
    · rw [upd_ne hb] at e; exact S.ok.zd e
  · obtain ⟨s, e1, r⟩ := S.cell i c e
    refine ⟨s, e1, ?_⟩
    have ne : ∀ q, c.priv = true → s = some (.ref q) → q ≠ p := fun q pc z e2 => hn i c e pc (by rw [e1, z, e2])
    cases c with
    | no => trivial
    | val d => obtain ⟨v, e2, r⟩ := r; exact ⟨v, e2, R.ext E r⟩
    | own l =>
      obtain ⟨q, us, e2, e3, r, n1, n2, n3⟩ := r
      exact ⟨q, us, e2, e3, RA.ext E r, n1, (by dsimp only; rw [upd_ne (ne q rfl e2)]; exact n2), n3⟩
    | pin q l => obtain ⟨us, e2, e0, e3, r⟩ := r; exact ⟨us, e2, e0, e3, RA.ext E r⟩
    | obj q c fs =>
      obtain ⟨C, dx, vf, e2, e3, m, cl, na, r, n1, n2, n3⟩ := r
      exact ⟨C, dx, vf, e2, e3, m, cl, na, r.mono E.s0 E.da, n1, (by dsimp only; rw [upd_ne (ne q rfl e2)]; exact n2), n3⟩
    | dic l =>
      obtain ⟨q, us, e2, e3, r, n1, n2, n3⟩ := r
      exact ⟨q, us, e2, e3, r.mono E.s0 E.da, n1, (by dsimp only; rw [upd_ne (ne q rfl e2)]; exact n2), n3⟩
    | dit l =>
      obtain ⟨q, us, e2, e3, r, n1, n2, n3⟩ := r
      exact ⟨q, us, e2, e3, r.mono E.s0 E.da, n1, (by dsimp only; rw [upd_ne (ne q rfl e2)]; exact n2), n3⟩
theorem se_fz {t : TE} {w : WF} (h : SF Γ t w) : SE Γ t (wFz w) := ⟨fun {T σ ρ Q Q'} S hw q => h.h S hw fun p vs T1 l ρ1 S1 e1 hp nF n0 nd hn r q1 => by
  obtain ⟨S2, E⟩ := S1.freezeNew hp nF n0 nd hn
  exact q (.ref p) ⟨T1.F, upd T1.H0 p (.lst vs), T1.Hd, T1.H, T1.P⟩ (.lst l) ρ1 S2 (e1.trans E) (.lst upd_same (RA.ext E r)) q1⟩
theorem ve_fz {t : TE} {w : WF} (h : VF Γ X e t w) : VE Γ X e t (wFz w) := ⟨h.pe, se_fz h.se⟩
/-! ### built-in functions -/
@[simp] def wCB (g : GN) (w : WA) : WE := fun ρ Q => w ρ fun as ρ1 => rsN ρ1 as fun ds => g ds fun z => Q z ρ1
@[simp] def wCBF (g : FN) (w : WA) : WF := fun ρ Q => w ρ fun as ρ1 => rsN ρ1 as fun ds => g ds fun z => Q z ρ1
variable {r : List V → Hp → VK → Prop} {x : Str} {p : Pos} {id T : String}
theorem se_cb {g : GN} (o : CS Γ r g) (h : SA Γ t w) : SE Γ (tCB r t) (wCB g w) := ⟨fun {T σ ρ Q Q'} S hw q => h.h S hw fun vs T1 as ρ1 S1 e1 r1 q1 => by
  obtain ⟨ds, rd, q1⟩ := S1.rsN r1 q1
  exact o.h S1.ok rd q1 fun v T2 d g2 r2 q2 => q v T2 d ρ1 (S1.grow g2) (e1.trans g2.ext) r2 q2⟩
theorem sf_cb {g : FN} (o : CSF Γ r g) (h : SA Γ t w) : SF Γ (tCB r t) (wCBF g w) := ⟨fun {T σ ρ Q Q'} S hw q => h.h S hw fun vs T1 as ρ1 S1 e1 r1 q1 => by
  obtain ⟨ds, rd, q1⟩ := S1.rsN r1 q1
  exact o.h S1.ok rd q1 fun p vs l n r2 q2 => sf_new S1 e1 q n r2 q2⟩
theorem ve_cb {g : GN} (hc : CallR X (.builtin id) r) (o : CS Γ r g) (hg : Gl X x) (hm : X.mg x = none) (hv : bootBuiltins x = some (.builtin id)) (ha : VA Γ X (e :: es) t w) (hn : x ≠ "__name__" := by decide) (hdb : (x == ("__debug__" : Str)) = false := by decide)
    (he : starEach (e :: es) X.env = (false, eval e X.env) :: starEach es X.env := by rfl) (hpl : (backTo pos (starEach es X.env)).any (·.1) = false := by rfl) : VE Γ X (.Call (.Name x p) (e :: es) [] pos) (tCB r t) (wCB g w) := ⟨pe_callB hc hg hm hv ha.pe hn hdb he hpl, se_cb o ha.se⟩
theorem vf_cb {g : FN} (hc : CallR X (.builtin id) r) (o : CSF Γ r g) (hg : Gl X x) (hm : X.mg x = none) (hv : bootBuiltins x = some (.builtin id)) (ha : VA Γ X (e :: es) t w) (hn : x ≠ "__name__" := by decide) (hdb : (x == ("__debug__" : Str)) = false := by decide)
    (he : starEach (e :: es) X.env = (false, eval e X.env) :: starEach es X.env := by rfl) (hpl : (backTo pos (starEach es X.env)).any (·.1) = false := by rfl) : VF Γ X (.Call (.Name x p) (e :: es) [] pos) (tCB r t) (wCBF g w) := ⟨pe_callB hc hg hm hv ha.pe hn hdb he hpl, sf_cb o ha.se⟩
theorem ve_ct {g : GN} (hc : CallR X (.type T) r) (o : CS Γ r g) (hg : Gl X x) (hm : X.mg x = none) (hv : bootBuiltins x = some (.type T)) (ha : VA Γ X (e :: es) t w) (hn : x ≠ "__name__" := by decide) (hdb : (x == ("__debug__" : Str)) = false := by decide)
    (he : starEach (e :: es) X.env = (false, eval e X.env) :: starEach es X.env := by rfl) (hpl : (backTo pos (starEach es X.env)).any (·.1) = false := by rfl) : VE Γ X (.Call (.Name x p) (e :: es) [] pos) (tCB r t) (wCB g w) := ⟨pe_callTy hc hg hm hv ha.pe hn hdb he hpl, se_cb o ha.se⟩
theorem vf_ct {g : FN} (hc : CallR X (.type T) r) (o : CSF Γ r g) (hg : Gl X x) (hm : X.mg x = none) (hv : bootBuiltins x = some (.type T)) (ha : VA Γ X (e :: es) t w) (hn : x ≠ "__name__" := by decide) (hdb : (x == ("__debug__" : Str)) = false := by decide)
    (he : starEach (e :: es) X.env = (false, eval e X.env) :: starEach es X.env := by rfl) (hpl : (backTo pos (starEach es X.env)).any (·.1) = false := by rfl) : VF Γ X (.Call (.Name x p) (e :: es) [] pos) (tCB r t) (wCBF g w) := ⟨pe_callTy hc hg hm hv ha.pe hn hdb he hpl, sf_cb o ha.se⟩
/-! ### items, fields -/
theorem ve_ix {i : Expr} {ti : TE} {wi : WO} (hK : X.K = Γ.K) (he : VO Γ X e te we) (hi : VO Γ X i ti wi) (hp : PlainIx i) : VE Γ X (.Subscript e i pos) (tOp (rIx Γ.K) te ti) (wOp gIx we wi) := ⟨pe_ix (kix_seq hK) he.pe hi.pe hp, se_op os_ix he.se hi.se⟩
@[simp] def wFld (f : Str) (w : WE) : WE := fun ρ Q => w ρ fun d ρ1 => match d with
  | .obj _ fs => oK (fs.lookup f) fun x => Q x ρ1
  | _ => False
theorem ve_fld {f : Str} {te : TE} {w : WE} (hK : X.K = Γ.K) (h : VE Γ X e te w) (hb : attributeBase e f X.env (eval e X.env) = eval e X.env) : VE Γ X (.Attribute e f pos) (tFld Γ.K te f) (wFld f w) := ⟨kpe_fld hK h.pe hb, ⟨fun {T σ ρ Q Q'} S hw q => h.se.h S hw fun v T1 d ρ1 S1 e1 r1 q1 => by
  cases d <;> first | exact q1.elim | skip
  obtain ⟨x, hx, q1⟩ := oK_of q1
  cases r1 with
  | obj h0 m cl na rf =>
    obtain ⟨v, hv, r⟩ := rf.lookup hx
    exact ⟨_, _, _, _, v, rfl, S1.ok.s0 _ _ h0, cl, na _ _ hv, hv, q v T1 x ρ1 S1 e1 r q1⟩⟩⟩
end
end
end Vl

namespace Vl
open PySem PySem.Spec PyProof.Rows L2 Hl

section
variable {Γ : Gx} {X : Cx} {T : Wo} {σ : L2.St} {ρ : Vn}
/-! ### one's own list is changed -/
theorem Sv.put {i : Nat} {p : Addr} {o' : HO} {c c' : Cell} (S : Sv Γ T σ ρ) (hi : ρ[i]? = some c) (pc : c.priv = true) (hs : σ[i]? = some (some (.ref p))) (nF : T.F p = none) (n0 : T.H0 p = none) (nd : T.Hd p = none)
    (r : ∀ T' : Wo, T'.F = T.F → T'.H0 = T.H0 → T'.Hd = T.Hd → T'.H p = some o' → CellR Γ T' (some (.ref p)) c') (hr : c'.priv = true) : Sv Γ ⟨T.F, T.H0, T.Hd, upd T.H p o', T.P⟩ σ (ρ.set i c') ∧ Ext Γ T ⟨T.F, T.H0, T.Hd, upd T.H p o', T.P⟩ := by
  have ne : ∀ {A : Hp} {b x}, A p = none → A b = some x → b ≠ p := fun hn e z => by rw [z, hn] at e; cases e
  refine ⟨⟨⟨fun b x e => ?_, fun b x e => ?_, fun b x e => ?_, S.ok.F0, S.ok.Fd, S.ok.zd, S.ok.ft, S.ok.dt⟩, by rw [List.length_set, S.len], fun j c1 e => ?_, fun j k q c1 c2 e1 e2 p1 p2 e3 e4 => ?_⟩, ⟨rfl, rfl, Same.refl _, fun _ h => h⟩⟩
  · dsimp only at e ⊢; rw [upd_ne (ne nF e)]; exact S.ok.sF _ _ e
  · dsimp only at e ⊢; rw [upd_ne (ne n0 e)]; exact S.ok.s0 _ _ e
  · dsimp only at e ⊢; rw [upd_ne (ne nd e)]; exact S.ok.sd _ _ e
  · rcases set_at e with ⟨rfl, hl, rfl⟩ | ⟨hj, e⟩
    · exact ⟨_, hs, r _ rfl rfl rfl upd_same⟩
    · obtain ⟨s, e1, r1⟩ := S.cell j c1 e
      refine ⟨s, e1, ?_⟩
      have nq : ∀ q, c1.priv = true → s = some (.ref q) → q ≠ p := fun q pq z z2 => hj (S.dist i j p c c1 hi e pc pq hs (by rw [e1, z, z2]))
      cases c1 with
      | no => trivial
      | val d => exact r1
      | own l => obtain ⟨q, us, e2, e3, r⟩ := r1; exact ⟨q, us, e2, (by dsimp only; rw [upd_ne (nq q rfl e2)]; exact e3), r⟩
      | pin q l => exact r1
      | obj q c fs => obtain ⟨C, dx, vf, e2, e3, r⟩ := r1; exact ⟨C, dx, vf, e2, (by dsimp only; rw [upd_ne (nq q rfl e2)]; exact e3), r⟩
      | dic l => obtain ⟨q, us, e2, e3, r⟩ := r1; exact ⟨q, us, e2, (by dsimp only; rw [upd_ne (nq q rfl e2)]; exact e3), r⟩
      | dit l => obtain ⟨q, us, e2, e3, r⟩ := r1; exact ⟨q, us, e2, (by dsimp only; rw [upd_ne (nq q rfl e2)]; exact e3), r⟩
  · have f : ∀ {j : Nat} {c1 : Cell}, (ρ.set i c')[j]? = some c1 → c1.priv = true → ∃ c', ρ[j]? = some c' ∧ c'.priv = true := fun {j c1} e pq => by
      rcases set_at e with ⟨rfl, hl, rfl⟩ | ⟨hj, e⟩
      · exact ⟨c, hi, pc⟩
      · exact ⟨_, e, pq⟩
    obtain ⟨c1', f1, q1⟩ := f e1 p1
    obtain ⟨c2', f2, q2⟩ := f e2 p2
    exact S.dist j k q _ _ f1 f2 q1 q2 e3 e4
theorem Sv.ownAt {i : Nat} {k : List D → Prop} (S : Sv Γ T σ ρ) (h : cOwn (ρ.getD i .no) k) : ∃ p vs l, ρ[i]? = some (.own l) ∧ σ[i]? = some (some (.ref p)) ∧ T.H p = some (.lst vs) ∧ RA Γ T.H0 T.Hd vs l ∧ T.F p = none ∧ T.H0 p = none ∧ T.Hd p = none ∧ k l := by
  obtain ⟨l, e, h⟩ := cOwn_of h
  have e' := getD_of e (by simp)
  obtain ⟨s, e1, p, vs, e2, hp, r, n1, n2, n3⟩ := S.cell i _ e'
  exact ⟨p, vs, l, e', by rw [e1, e2], hp, r, n1, n2, n3, h⟩
theorem Sv.putL {i : Nat} {p : Addr} {vs : List V} {l l' : List D} (S : Sv Γ T σ ρ) (hi : ρ[i]? = some (.own l)) (hs : σ[i]? = some (some (.ref p))) (nF : T.F p = none) (n0 : T.H0 p = none) (nd : T.Hd p = none) (r : RA Γ T.H0 T.Hd vs l') :
    Sv Γ ⟨T.F, T.H0, T.Hd, upd T.H p (.lst vs), T.P⟩ σ (ρ.set i (.own l')) ∧ Ext Γ T ⟨T.F, T.H0, T.Hd, upd T.H p (.lst vs), T.P⟩ :=
  S.put hi rfl hs nF n0 nd (fun T' h1 h2 h3 h4 => ⟨p, vs, rfl, h4, by rw [h2, h3]; exact r, by rw [h1]; exact nF, by rw [h2]; exact n0, by rw [h3]; exact nd⟩) rfl
variable {i : Nat} {e : Expr} {te : TE} {we : WE}
@[simp] def wApp (i : Nat) (w : WE) : WE := fun ρ Q => cOwn (ρ.getD i .no) fun _ => w ρ fun d ρ1 => cOwn (ρ1.getD i .no) fun l => l.length < sizeLine ∧ Q .non (ρ1.set i (.own (l ++ [d])))
theorem se_app (h : SE Γ te we) : SE Γ (tBM Γ.K "list" rAppend (tVar i) (tCons te tNil)) (wApp i we) := ⟨fun {T σ ρ Q Q'} S hw q => by
  obtain ⟨p, vs, l, hi, hs, hp, r, nF, n0, nd, hw⟩ := S.ownAt hw
  refine ⟨_, hs, .inl ⟨rfl, vs, SqL.of hp⟩, h.h S hw fun v T1 d ρ1 S1 e1 r1 q1 => ?_⟩
  obtain ⟨p', vs', l', hi, hs', hp, r, nF, n0, nd, hz, hw⟩ := S1.ownAt q1
  rw [hs] at hs'; cases hs'
  obtain ⟨S2, e2⟩ := S1.putL (l' := l' ++ [d]) hi hs nF n0 nd (r.app (.cons r1 .nil))
  exact ⟨_, _, _, rfl, rfl, hp, by rw [r.len]; exact hz, q .non _ .non _ S2 (e1.trans e2) .non hw⟩⟩
@[simp] def wExt (i : Nat) (w : WO) : WE := fun ρ Q => cOwn (ρ.getD i .no) fun _ => w ρ fun a ρ1 => rs1 ρ1 a fun d => cOwn (ρ1.getD i .no) fun l => match d with
  | .lst m => l.length + m.length ≤ sizeLine ∧ Q .non (ρ1.set i (.own (l ++ m)))
  | _ => False
theorem se_ext {we : WO} (h : SO Γ te we) : SE Γ (tBM Γ.K "list" rExtend (tVar i) (tCons te tNil)) (wExt i we) := ⟨fun {T σ ρ Q Q'} S hw q => by
  obtain ⟨p, vs, l, hi, hs, hp, r, nF, n0, nd, hw⟩ := S.ownAt hw
  refine ⟨_, hs, .inl ⟨rfl, vs, SqL.of hp⟩, h.h S hw fun v T1 a ρ1 S1 e1 r1 q1 => ?_⟩
  obtain ⟨d, rd, q1⟩ := S1.rs1 r1 q1
  obtain ⟨p', vs', l', hi, hs', hp, r, nF, n0, nd, hw⟩ := S1.ownAt q1
  rw [hs] at hs'; cases hs'
  cases d <;> first | exact hw.elim | skip
  obtain ⟨b, us, rfl, hb, rb⟩ := rd.lst S1.ok
  obtain ⟨S2, e2⟩ := S1.putL hi hs nF n0 nd (r.app rb)
  exact ⟨_, _, _, _, rfl, rfl, hp, hb, by rw [r.len, rb.len]; exact hw.1, q .non _ .non _ S2 (e1.trans e2) .non hw.2⟩⟩
@[simp] def wPop (i : Nat) : WE := fun ρ Q => cOwn (ρ.getD i .no) fun l => oK (l[l.length - 1]?) fun d => Q d (ρ.set i (.own l.dropLast))
theorem RA.dropLast {H0 Hd : Hp} : ∀ {vs : List V} {l : List D}, RA Γ H0 Hd vs l → RA Γ H0 Hd vs.dropLast l.dropLast
  | _, _, .nil => .nil
  | _, _, .cons h .nil => .nil
  | _, _, .cons h (.cons h' t) => .cons h (RA.dropLast (.cons h' t))
theorem se_pop : SE Γ (tBM0 Γ.K "list" rPop (tVar i)) (wPop i) := ⟨fun {T σ ρ Q Q'} S hw q => by
  obtain ⟨p, vs, l, hi, hs, hp, r, nF, n0, nd, hw⟩ := S.ownAt hw
  obtain ⟨d, hd, hw⟩ := oK_of hw
  obtain ⟨v, hv, rv⟩ := r.get hd
  obtain ⟨S2, e2⟩ := S.putL (l' := l.dropLast) hi hs nF n0 nd r.dropLast
  exact ⟨_, hs, .inl ⟨rfl, vs, SqL.of hp⟩, _, _, v, rfl, rfl, hp, by rw [r.len]; exact hv, q v _ d _ S2 e2 (R.ext e2 rv) hw⟩⟩
@[simp] def wPopAt (i : Nat) (w : WE) : WE := fun ρ Q => cOwn (ρ.getD i .no) fun _ => w ρ fun d ρ1 => match d with
  | .int j => cOwn (ρ1.getD i .no) fun l => (-(2 ^ 63) ≤ j ∧ j < 2 ^ 63) ∧ oK (seqIndex? j l.length) fun k => oK (l[k]?) fun d => Q d (ρ1.set i (.own (l.eraseIdx k)))
  | _ => False
theorem se_popAt (h : SE Γ te we) : SE Γ (tBM Γ.K "list" rPopAt (tVar i) (tCons te tNil)) (wPopAt i we) := ⟨fun {T σ ρ Q Q'} S hw q => by
  obtain ⟨p, vs, l, hi, hs, hp, r, nF, n0, nd, hw⟩ := S.ownAt hw
  refine ⟨_, hs, .inl ⟨rfl, vs, SqL.of hp⟩, h.h S hw fun v T1 d ρ1 S1 e1 r1 q1 => ?_⟩
  cases d <;> first | exact q1.elim | skip
  cases r1
  obtain ⟨p', vs', l', hi, hs', hp, r, nF, n0, nd, hb, hw⟩ := S1.ownAt q1
  rw [hs] at hs'; cases hs'
  obtain ⟨k, hk, hw⟩ := oK_of hw
  obtain ⟨d, hd, hw⟩ := oK_of hw
  obtain ⟨v, hv, rv⟩ := r.get hd
  obtain ⟨S2, e2⟩ := S1.putL (l' := l'.eraseIdx k) hi hs nF n0 nd (r.eraseIdx k)
  exact ⟨_, _, _, k, v, rfl, rfl, hp, hb.1, hb.2, by rw [r.len]; exact hk, hv, q v _ d _ S2 (e1.trans e2) (R.ext e2 rv) hw⟩⟩
/-! ### statements -/
section
variable {st : Stmt} {sts rest : List Stmt} {t u : TS} {w z : WS} {pos : Pos}
@[simp] def wNext : WS := fun D ρ => D.nx ρ
@[simp] def wSeq (w z : WS) : WS := fun D ρ => w { D with nx := z D } ρ
@[simp] def wBrk : WS := fun D ρ => D.bk ρ
@[simp] def wCnt : WS := fun D ρ => D.ct ρ
@[simp] def wDrop (w : WE) : WS := fun D ρ => w ρ fun _ ρ1 => D.nx ρ1
@[simp] def wRet (w : WE) : WS := fun D ρ => w ρ fun d _ => D.rt d
@[simp] def wRetN : WS := fun D _ => D.rt .non
@[simp] def wIf (c : WT) (w z : WS) : WS := fun D ρ => c ρ fun b ρ1 => (b = true → w D ρ1) ∧ (b = false → z D ρ1)
@[simp] def wNev : WS := fun _ _ => False
theorem vb_nil : VB Γ X [] tNext wNext := ⟨pss_nil, ⟨fun {T σ ρ D D'} S h a b c d => a T σ ρ S .refl h⟩⟩
theorem vs_pass : VS Γ X (.Pass pos) tNext wNext := ⟨ps_pass, ⟨fun {T σ ρ D D'} S h a b c d => a T σ ρ S .refl h⟩⟩
theorem vs_doc {x j pos pos'} : VS Γ X (.Expr (.Constant (.str x) j pos) pos') tNext wNext := ⟨ps_doc, ⟨fun {T σ ρ D D'} S h a b c d => a T σ ρ S .refl h⟩⟩
theorem vs_break : VS Γ X (.Break pos) tBreak wBrk := ⟨ps_break, ⟨fun {T σ ρ D D'} S h a b c d => c T σ ρ S .refl h⟩⟩
theorem vs_cont : VS Γ X (.Continue pos) tCont wCnt := ⟨ps_continue, ⟨fun {T σ ρ D D'} S h a b c d => d T σ ρ S .refl h⟩⟩
theorem ss_seq (h : SS Γ t w) (h' : SS Γ u z) : SS Γ (tSeq t u) (wSeq w z) := ⟨fun {T σ ρ D D'} S hw a b c d =>
  h.h S hw (fun T1 σ1 ρ1 S1 e1 q1 => h'.h S1 q1 (fun T2 σ2 ρ2 S2 e2 q2 => a T2 σ2 ρ2 S2 (e1.trans e2) q2) (fun T2 v x o2 e2 r2 q2 => b T2 v x o2 (e1.trans e2) r2 q2) (fun T2 σ2 ρ2 S2 e2 q2 => c T2 σ2 ρ2 S2 (e1.trans e2) q2) (fun T2 σ2 ρ2 S2 e2 q2 => d T2 σ2 ρ2 S2 (e1.trans e2) q2)) b c d⟩
theorem vb_cons (h : VS Γ X st t w) (h' : VB Γ X rest u z) : VB Γ X (st :: rest) (tSeq t u) (wSeq w z) := ⟨pss_cons h.pe h'.pe, ss_seq h.se h'.se⟩
theorem vb_one (h : VS Γ X st t w) : VB Γ X [st] t w := ⟨pss_one h.pe, h.se⟩
theorem vs_expr (h : VE Γ X e te we) (hs : swapsWith e none pos.line X.env = pure false := by rfl) : VS Γ X (.Expr e pos) (tDrop te) (wDrop we) := ⟨ps_expr h.pe hs, ⟨fun {T σ ρ D D'} S hw a b c d => h.se.h S hw fun v T1 x ρ1 S1 e1 r1 q1 => a T1 σ ρ1 S1 e1 q1⟩⟩
theorem vs_ret (h : VE Γ X e te we) : VS Γ X (.Return (some e) pos) (tRet te) (wRet we) := ⟨ps_ret h.pe, ⟨fun {T σ ρ D D'} S hw a b c d => h.se.h S hw fun v T1 x ρ1 S1 e1 r1 q1 => b T1 v x S1.ok e1 r1 q1⟩⟩
theorem vs_retN : VS Γ X (.Return none pos) tRetN wRetN := ⟨ps_retN, ⟨fun {T σ ρ D D'} S hw a b c d => b T .non .non S.ok .refl .non hw⟩⟩
theorem ss_if {tc : TT} {wc : WT} (hc : ST Γ tc wc) (h : SS Γ t w) (h' : SS Γ u z) : SS Γ (tIfS tc t u) (wIf wc w z) := ⟨fun {T σ ρ D D'} S hw a b c d => hc.h S hw fun k T1 ρ1 S1 e1 q1 => by
  have fa := fun T2 σ2 ρ2 S2 e2 q2 => a T2 σ2 ρ2 S2 (Ext.trans (Γ := Γ) e1 e2) q2
  have fb := fun T2 v x o2 e2 r2 q2 => b T2 v x o2 (Ext.trans (Γ := Γ) e1 e2) r2 q2
  have fc := fun T2 σ2 ρ2 S2 e2 q2 => c T2 σ2 ρ2 S2 (Ext.trans (Γ := Γ) e1 e2) q2
  have fd := fun T2 σ2 ρ2 S2 e2 q2 => d T2 σ2 ρ2 S2 (Ext.trans (Γ := Γ) e1 e2) q2
  cases k with
  | true => exact iteT (h.h S1 (q1.1 rfl) fa fb fc fd)
  | false => exact iteF (h'.h S1 (q1.2 rfl) fa fb fc fd)⟩
theorem vs_if {c : Expr} {x y : List Stmt} {tc : TT} {wc : WT} (hc : VT Γ X c tc wc) (h : VB Γ X x t w) (h' : VB Γ X y u z) : VS Γ X (.If c x y pos) (tIfS tc t u) (wIf wc w z) := ⟨ps_if hc.pe h.pe h'.pe, ss_if hc.se h.se h'.se⟩
theorem vs_nev : VS Γ X st tNever wNev := ⟨ps_never, ⟨fun {T σ ρ D D'} S hw a b c d => hw.elim⟩⟩
theorem vb_nev : VB Γ X sts tNever wNev := ⟨pss_never, ⟨fun {T σ ρ D D'} S hw a b c d => hw.elim⟩⟩
/-! ### stores -/
abbrev WG := D → Vn → (Vn → Prop) → Prop
abbrev WGs := List D → Vn → (Vn → Prop) → Prop
@[simp] def gV (i : Nat) : WG := fun d ρ Q => Q (ρ.set i (.val d))
@[simp] def gNilV : WGs := fun ds ρ Q => match ds with
  | [] => Q ρ
  | _ => False
@[simp] def gConsV (w : WG) (u : WGs) : WGs := fun ds ρ Q => match ds with
  | d :: r => w d ρ fun ρ1 => u r ρ1 Q
  | _ => False
@[simp] def gTupV (n : Nat) (u : WGs) : WG := fun d ρ Q => match d with
  | .tup l => l.length = n ∧ u l ρ Q
  | _ => False
def SameOut (ts : List Nat) (σ σ' : L2.St) : Prop := σ'.length = σ.length ∧ ∀ j, j ∉ ts → σ'[j]? = σ[j]?
structure SG (Γ : Gx) (t : TG) (ts : List Nat) (w : WG) : Prop where
  h : ∀ {T : Wo} {σ : L2.St} {ρ : Vn} {v : V} {d : D} {Q : Vn → Prop} {Q' : L2.St → Hp → Prop}, Sv Γ T σ ρ → R Γ T.H0 T.Hd v d → w d ρ Q → (∀ σ' ρ', Sv Γ T σ' ρ' → SameOut ts σ σ' → Q ρ' → Q' σ' T.H) → t v σ T.H Q'
structure SGs (Γ : Gx) (t : TGs) (ts : List Nat) (w : WGs) : Prop where
  h : ∀ {T : Wo} {σ : L2.St} {ρ : Vn} {v : List V} {d : List D} {Q : Vn → Prop} {Q' : L2.St → Hp → Prop}, Sv Γ T σ ρ → RA Γ T.H0 T.Hd v d → w d ρ Q → (∀ σ' ρ', Sv Γ T σ' ρ' → SameOut ts σ σ' → Q ρ' → Q' σ' T.H) → t v σ T.H Q'
structure VG (Γ : Gx) (X : Cx) (e : Expr) (t : TG) (ts : List Nat) (w : WG) : Prop where
  pe : PG X e t
  se : SG Γ t ts w
structure VGs (Γ : Gx) (X : Cx) (es : List Expr) (t : TGs) (ts : List Nat) (w : WGs) : Prop where
  pe : PGs X es t
  se : SGs Γ t ts w
theorem SameOut.trans {ts us : List Nat} {a b c : L2.St} (h : SameOut ts a b) (h' : SameOut us b c) : SameOut (ts ++ us) a c := ⟨h'.1.trans h.1, fun j hj => by
  rw [List.mem_append, not_or] at hj
  rw [h'.2 j hj.2, h.2 j hj.1]⟩
theorem sg_name {i : Nat} : SG Γ (gName i) [i] (gV i) := ⟨fun {T σ ρ v d Q Q'} S r hw q => q _ _ (S.setVal r) ⟨by rw [List.length_set], fun j hj => List.getElem?_set_ne (fun z => hj (by simp [z]))⟩ hw⟩
theorem vg_name {i : Nat} {x : Str} (hN : X.N.Nodup) (hi : X.N[i]? = some x) (hx : Loc X.env.scope x) (hf : X.fn x = true ∨ X.env.scope.names.lookup x = some .local := by first | exact .inl rfl | exact .inr rfl | assumption) : VG Γ X (.Name x pos) (gName i) [i] (gV i) := ⟨pg_name hN hi hx hf, sg_name⟩
theorem vgs_nil : VGs Γ X [] gNil [] gNilV := ⟨pgs_nil, ⟨fun {T σ ρ v d Q Q'} S r hw q => by
  cases d with
  | nil => cases r; exact ⟨rfl, q _ _ S ⟨rfl, fun _ _ => rfl⟩ hw⟩
  | cons _ _ => exact hw.elim⟩⟩
theorem vgs_cons {e : Expr} {es : List Expr} {t : TG} {u : TGs} {ts us : List Nat} {w : WG} {z : WGs} (h : VG Γ X e t ts w) (h' : VGs Γ X es u us z)
    (hs : (assignEach (e :: es) X.env).map (·.2) = assign e X.env :: (assignEach es X.env).map (·.2) := by rfl) : VGs Γ X (e :: es) (gCons t u) (ts ++ us) (gConsV w z) := ⟨pgs_cons h.pe h'.pe hs, ⟨fun {T σ ρ v d Q Q'} S r hw q => by
  cases d with
  | nil => exact hw.elim
  | cons d ds =>
    cases r with
    | cons r rs => exact ⟨_, _, rfl, h.se.h S r hw fun σ1 ρ1 S1 so1 q1 => h'.se.h S1 rs q1 fun σ2 ρ2 S2 so2 q2 => q σ2 ρ2 S2 (so1.trans so2) q2⟩⟩⟩
theorem gTupV_ok {u : TGs} {ts : List Nat} {n : Nat} {z : WGs} (h : SGs Γ u ts z) : SG Γ (gTup Γ.K n u) ts (gTupV n z) := ⟨fun {T σ ρ v d Q Q'} S r hw q => by
  cases d <;> first | exact hw.elim | skip
  cases r with
  | tup hs ra => exact ⟨_, _, rfl, tT S.ok.s0 hs, by rw [ra.len]; exact hw.1, h.h S ra hw.2 q⟩⟩
theorem vg_tup {es : List Expr} {k : Nat} {u : TGs} {ts : List Nat} {n : Nat} {z : WGs} (hK : X.K = Γ.K) (hc : X.calm = true) (h : VGs Γ X es u ts z) (hn : (assignEach es X.env).length = n := by rfl) (hst : (assignEach es X.env).findIdx? (·.1) = none := by rfl) : VG Γ X (.Tuple es k pos) (gTup Γ.K n u) ts (gTupV n z) := ⟨kpg_tup hK hc h.pe hn hst, gTupV_ok h.se⟩
@[simp] def wSet (w : WE) (g : WG) : WS := fun D ρ => w ρ fun d ρ1 => g d ρ1 D.nx
@[simp] def wSetF (i : Nat) (w : WF) : WS := fun D ρ => w ρ fun l ρ1 => D.nx (ρ1.set i (.own l))
theorem ss_set {t : TE} {w : WE} {g : TG} {ts : List Nat} {wg : WG} (h : SE Γ t w) (hg : SG Γ g ts wg) : SS Γ (tAsg t g) (wSet w wg) := ⟨fun {T σ ρ D D'} S hw a b c d => h.h S hw fun v T1 x ρ1 S1 e1 r1 q1 => hg.h S1 r1 q1 fun σ' ρ' S2 _ q2 => a T1 σ' ρ' S2 e1 q2⟩
theorem ss_setF {i : Nat} {t : TE} {w : WF} (h : SF Γ t w) : SS Γ (tAsg t (gName i)) (wSetF i w) := ⟨fun {T σ ρ D D'} S hw a b c d => h.h S hw fun p vs T1 l ρ1 S1 e1 hp nF n0 nd hn r q1 =>
  a T1 _ _ (S1.set (c := .own l) ⟨p, vs, rfl, hp, r, nF, n0, nd⟩ fun _ j p' c' e2 e3 pc e4 => by cases e2; exact absurd e4 (hn j c' e3 pc)) e1 q1⟩
theorem vs_set {i : Nat} {x : Str} {pos' : Pos} (hN : X.N.Nodup) (hi : X.N[i]? = some x) (hx : Loc X.env.scope x) (h : VE Γ X e te we) (hs : swapsWith e (some (.Name x pos')) pos.line X.env = pure false := by rfl) (hf : X.fn x = true ∨ X.env.scope.names.lookup x = some .local := by first | exact .inl rfl | exact .inr rfl | assumption) :
    VS Γ X (.Assign [.Name x pos'] e pos) (tAsg te (gName i)) (wSet we (gV i)) := ⟨ps_set hN hi hx h.pe hs hf, ss_set h.se sg_name⟩
theorem vs_setF {i : Nat} {x : Str} {pos' : Pos} {we : WF} (hN : X.N.Nodup) (hi : X.N[i]? = some x) (hx : Loc X.env.scope x) (h : VF Γ X e te we) (hs : swapsWith e (some (.Name x pos')) pos.line X.env = pure false := by rfl) (hf : X.fn x = true ∨ X.env.scope.names.lookup x = some .local := by first | exact .inl rfl | exact .inr rfl | assumption) :
    VS Γ X (.Assign [.Name x pos'] e pos) (tAsg te (gName i)) (wSetF i we) := ⟨ps_set hN hi hx h.pe hs hf, ss_setF h.se⟩
theorem vs_asg {tg : Expr} {g : TG} {ts : List Nat} {wg : WG} (h : VE Γ X e te we) (hg : VG Γ X tg g ts wg) (hs : swapsWithSole [tg] e pos.line X.env = pure false := by rfl) (hw : swappedStores [tg] e X.env = pure none := by rfl)
    (h1 : (assignEach [tg] X.env).map (·.2) = [assign tg X.env] := by rfl) : VS Γ X (.Assign [tg] e pos) (tAsg te g) (wSet we wg) := ⟨ps_asg h.pe hg.pe hs hw h1, ss_set h.se hg.se⟩
/-- x += e -/
@[simp] def wAug (i : Nat) (f : Int → Int → Int) (w : WE) : WS := fun D ρ => cVal (ρ.getD i .no) fun x => w ρ fun y ρ1 => match x, y with
  | .int a, .int b => D.nx (ρ1.set i (.val (.int (f a b))))
  | _, _ => False
theorem ss_aug {i : Nat} {f : Int → Int → Int} (h : SE Γ te we) : SS Γ (tAug i te (ipI f)) (wAug i f we) := ⟨fun {T σ ρ D D'} S hw a b c d => by
  obtain ⟨x, e, hw⟩ := cVal_of hw
  obtain ⟨s, e1, v, e2, r⟩ := S.cell i _ (getD_of e (by simp))
  refine ⟨v, by rw [e1, e2], h.h S hw fun v' T1 y ρ1 S1 e1 r1 q1 => ?_⟩
  cases x <;> cases y <;> first | exact q1.elim | skip
  cases r; cases r1
  exact ⟨_, _, rfl, rfl, a T1 _ _ (S1.setVal (.int _)) e1 q1⟩⟩
/-- x, y = a, b -/
@[simp] def wPar (i j : Nat) (w : WA) : WS := fun D ρ => w ρ fun as ρ1 => shN as fun ds => match ds with
  | [a, b] => D.nx ((ρ1.set i (.val a)).set j (.val b))
  | _ => False
theorem ss_par {i j : Nat} {ta : TA} {wa : WA} (h : SA Γ ta wa) : SS Γ (tPar i j ta) (wPar i j wa) := ⟨fun {T σ ρ D D'} S hw a b c d => h.h S hw fun vs T1 as ρ1 S1 e1 r1 q1 => by
  obtain ⟨ds, r, q1⟩ := shN_of r1 q1
  match ds, q1, r with
  | [x, y], q1, .cons rx (.cons ry .nil) => exact ⟨_, _, rfl, a T1 _ _ ((S1.setVal rx).setVal ry) e1 q1⟩⟩
/-! ### one's own list is shared from here on -/
@[simp] def frz (i : Nat) (ρ : Vn) : Vn := match ρ.getD i .no with
  | .own l => ρ.set i (.val (.lst l))
  | _ => ρ
theorem Sv.frz {i : Nat} (S : Sv Γ T σ ρ) : ∃ T', T'.H = T.H ∧ Sv Γ T' σ (frz i ρ) ∧ Ext Γ T T' := by
  unfold Vl.frz
  split
  · rename_i l e
    have e' := getD_of e (by simp)
    obtain ⟨s, e1, p, vs, e2, hp, r, nF, n0, nd⟩ := S.cell i _ e'
    subst e2
    have S1 := S.forget (i := i)
    obtain ⟨S2, E⟩ := S1.freezeNew hp nF n0 nd fun j c ec pc z => by
      rcases set_at ec with ⟨rfl, hl, rfl⟩ | ⟨hj, ec⟩
      · cases pc
      · exact hj (S.dist i j p _ c e' ec rfl pc e1 z)
    refine ⟨⟨T.F, upd T.H0 p (.lst vs), T.Hd, T.H, T.P⟩, rfl, ?_, E⟩
    have S3 := S2.re (i := i) (c := .val (.lst l)) (fun s hs _ => by rw [e1] at hs; cases hs; exact ⟨_, rfl, .lst upd_same (RA.ext E r)⟩) fun z => nomatch z
    rwa [List.set_set] at S3
  · exact ⟨T, rfl, S, .refl⟩
@[simp] def wFrz (i : Nat) (w : WS) : WS := fun D ρ => w D (frz i ρ)
theorem ss_frz {i : Nat} (h : SS Γ t w) : SS Γ t (wFrz i w) := ⟨fun {T σ ρ D D'} S hw a b c d => by
  obtain ⟨T1, e, S1, E⟩ := S.frz (i := i)
  rw [← e]
  exact h.h S1 hw (fun T2 σ2 ρ2 S2 e2 q2 => a T2 σ2 ρ2 S2 (E.trans e2) q2) (fun T2 v x o2 e2 r2 q2 => b T2 v x o2 (E.trans e2) r2 q2) (fun T2 σ2 ρ2 S2 e2 q2 => c T2 σ2 ρ2 S2 (E.trans e2) q2) (fun T2 σ2 ρ2 S2 e2 q2 => d T2 σ2 ρ2 S2 (E.trans e2) q2)⟩
theorem vs_frz (i : Nat) (h : VS Γ X st t w) : VS Γ X st t (wFrz i w) := ⟨h.pe, ss_frz h.se⟩
theorem vb_frz (i : Nat) (h : VB Γ X sts t w) : VB Γ X sts t (wFrz i w) := ⟨h.pe, ss_frz h.se⟩
end
end
end Vl

namespace Vl
open PySem PySem.Spec PyProof.Rows L2 Hl

section
variable {Γ : Gx} {X : Cx} {T : Wo} {σ : L2.St} {ρ : Vn}
/-! ### what a loop walks -/
abbrev WI := Vn → (List D → Vn → Prop) → Prop
structure Lat (Γ : Gx) (T T' : Wo) : Prop where
  ok : T'.Ok
  f : Same T.F T'.F
  s0 : Same T.H0 T'.H0
  da : ∀ a, Γ.DA T.Hd a → Γ.DA T'.Hd a
structure Its (Γ : Gx) (T : Wo) (J : It) (ds : List D) : Prop where
  go : ∀ T', Lat Γ T T' → ∀ i, i < ds.length → J.go i T'.H
  stop : ∀ T', Lat Γ T T' → J.stop ds.length T'.H
  yld : ∀ T', Lat Γ T T' → ∀ i d x H', ds[i]? = some d → J.yld i T'.H x H' → ∃ T'', Gr T' T'' ∧ T''.H = H' ∧ R Γ T''.H0 T''.Hd x d
structure SI (Γ : Gx) (t : TI) (w : WI) : Prop where
  h : ∀ {T : Wo} {σ : L2.St} {ρ : Vn} {Q : List D → Vn → Prop} {Q' : It → Hp → Prop}, Sv Γ T σ ρ → w ρ Q → (∀ J T' ds ρ', Sv Γ T' σ ρ' → Ext Γ T T' → Its Γ T' J ds → Q ds ρ' → Q' J T'.H) → t σ T.H Q'
structure VI (Γ : Gx) (X : Cx) (tg e : Expr) (t : TI) (w : WI) : Prop where
  pe : PI X tg e t
  se : SI Γ t w
theorem Lat.ext {R1 : Gx} {T T' : Wo} (l : Lat R1 T T') {vs : List V} {ds : List D} (h : RA R1 T.H0 T.Hd vs ds) : RA R1 T'.H0 T'.Hd vs ds := h.mono l.s0 l.da
/-- a list that stands (shared or pinned), a tuple -/
@[simp] def cStd : Cell → (D → Prop) → Prop
  | .val d, k => k d
  | .pin _ l, k => k (.lst l)
  | _, _ => False
@[simp] def rsW (ρ : Vn) : AI → (D → Prop) → Prop
  | .d d, k => k d
  | .sl i, k => cStd (ρ.getD i .no) k
@[simp] def itD : D → (List D → Prop) → Prop
  | .lst l, k => k l
  | .tup l, k => k l
  | _, _ => False
@[simp] def wIt (w : WO) : WI := fun ρ Q => w ρ fun a ρ1 => rsW ρ1 a fun d => itD d fun l => Q l ρ1
inductive Std (Γ : Gx) (T : Wo) : V → D → Prop
  | sh {v d} : R Γ T.H0 T.Hd v d → Std Γ T v d
  | pi {p vs l} : T.F p = some (.lst vs) → RA Γ T.H0 T.Hd vs l → Std Γ T (.ref p) (.lst l)
theorem Sv.rsW {v : V} {a : AI} {k : D → Prop} (S : Sv Γ T σ ρ) (ha : AR Γ T σ v a) (h : rsW ρ a k) : ∃ d, Std Γ T v d ∧ k d := by
  cases a with
  | d d => exact ⟨d, .sh ha, h⟩
  | sl i =>
    have h : cStd (ρ.getD i .no) k := h
    cases e : ρ.getD i .no with
    | val d =>
      rw [e] at h
      obtain ⟨s, e1, v', e2, r⟩ := S.cell i _ (getD_of e (by simp))
      rw [show σ[i]? = some (some v) from ha] at e1
      cases e1; cases e2
      exact ⟨d, .sh r, h⟩
    | pin p l =>
      rw [e] at h
      obtain ⟨s, e1, vs, e2, _, hp, r⟩ := S.cell i _ (getD_of e (by simp))
      rw [show σ[i]? = some (some v) from ha] at e1
      cases e1; cases e2
      exact ⟨_, .pi hp r, h⟩
    | _ => rw [e] at h; exact h.elim
theorem lt_at {vs : List V} {ds : List D} {i : Nat} {H0 Hd : Hp} (r : RA Γ H0 Hd vs ds) (h : i < ds.length) : ∃ x, vs[i]? = some x := ⟨_, List.getElem?_eq_getElem (by rw [r.len]; exact h)⟩
theorem its_list {p : Addr} {vs : List V} {ds : List D} (hs : ∀ T', Lat Γ T T' → SqL Γ.K T'.H p vs) (r : RA Γ T.H0 T.Hd vs ds) : Its Γ T (Itl Γ.K p) ds := by
  refine ⟨fun T' l i hi => ?_, fun T' l => ⟨vs, hs T' l, by rw [r.len]; exact Nat.le_refl _⟩, fun T' l i d x H' hd hy => ?_⟩
  · obtain ⟨x, hx⟩ := lt_at r hi
    exact ⟨vs, x, hs T' l, hx⟩
  · obtain ⟨v, hv, rv⟩ := (l.ext r).get hd
    have z := hy.2 vs (hs T' l)
    rw [hv] at z; cases z
    exact ⟨T', .refl l.ok, hy.1.symm, rv⟩
theorem its_tup {p : Addr} {vs : List V} {ds : List D} (hs : ∀ T', Lat Γ T T' → SqT Γ.K T'.H p vs) (r : RA Γ T.H0 T.Hd vs ds) : Its Γ T (Itt Γ.K p) ds := by
  refine ⟨fun T' l i hi => ?_, fun T' l => ⟨vs, hs T' l, by rw [r.len]; exact Nat.le_refl _⟩, fun T' l i d x H' hd hy => ?_⟩
  · obtain ⟨x, hx⟩ := lt_at r hi
    exact ⟨vs, x, hs T' l, hx⟩
  · obtain ⟨v, hv, rv⟩ := (l.ext r).get hd
    have z := hy.2 vs (hs T' l)
    rw [hv] at z; cases z
    exact ⟨T', .refl l.ok, hy.1.symm, rv⟩
@[simp] def wItL (w : WO) : WI := fun ρ Q => w ρ fun a ρ1 => rsW ρ1 a fun d => match d with
  | .lst l => Q l ρ1
  | _ => False
@[simp] def wItT (w : WO) : WI := fun ρ Q => w ρ fun a ρ1 => rsW ρ1 a fun d => match d with
  | .tup l => Q l ρ1
  | _ => False
theorem si_list {t : TE} {w : WO} (h : SO Γ t w) : SI Γ (iList Γ.K t) (wItL w) := ⟨fun {T σ ρ Q Q'} S hw q => h.h S hw fun v T1 a ρ1 S1 e1 r1 q1 => by
  obtain ⟨d, rd, q1⟩ := S1.rsW r1 q1
  cases d <;> first | exact q1.elim | skip
  cases rd with
  | sh r =>
    cases r with
    | lst hp ra => exact ⟨_, rfl, ⟨_, SqL.of (S1.ok.s0 _ _ hp)⟩, q _ T1 _ ρ1 S1 e1 (its_list (fun T' l => SqL.of (l.ok.s0 _ _ (l.s0 _ _ hp))) ra) q1⟩
  | pi hp ra => exact ⟨_, rfl, ⟨_, SqL.of (S1.ok.sF _ _ hp)⟩, q _ T1 _ ρ1 S1 e1 (its_list (fun T' l => SqL.of (l.ok.sF _ _ (l.f _ _ hp))) ra) q1⟩⟩
theorem si_tup {t : TE} {w : WO} (h : SO Γ t w) : SI Γ (iTup Γ.K t) (wItT w) := ⟨fun {T σ ρ Q Q'} S hw q => h.h S hw fun v T1 a ρ1 S1 e1 r1 q1 => by
  obtain ⟨d, rd, q1⟩ := S1.rsW r1 q1
  cases d <;> first | exact q1.elim | skip
  cases rd with
  | sh r =>
    cases r with
    | tup hp ra => exact ⟨_, rfl, ⟨_, tT S1.ok.s0 hp⟩, q _ T1 _ ρ1 S1 e1 (its_tup (fun T' l => tT l.ok.s0 (l.s0 _ _ hp)) ra) q1⟩⟩
/-- a list or a tuple: told by what comes -/
def iSeq (K : PySem.W.Frag) (tl : TE) : TI := fun σ H R => tl σ H fun x H1 => (∃ a, x = .ref a ∧ (∃ xs, SqL K H1 a xs) ∧ R (Itl K a) H1) ∨ (∃ a, x = .ref a ∧ (∃ xs, SqT K H1 a xs) ∧ R (Itt K a) H1)
theorem pi_seq {tg l : Expr} {tl : TE} (hl : PE X l tl) : PI X tg l (iSeq X.K tl) := by
  refine ⟨fun pins s σ H R I h => ?_⟩
  refine thn (hl.run pins s σ H _ I h) fun v s1 ⟨x, H1, I1, r1, q1⟩ => ?_
  rcases q1 with ⟨a, e, ⟨xs, hq⟩, q⟩ | ⟨a, e, ⟨xs, hq⟩, q⟩
  · subst e
    cases r1
    obtain ⟨its, rv, p, hz⟩ := I1.list hq
    refine wpAny_pyIter_list p.isList ?_
    refine ⟨s1.heap.objs.size, [s1.heap.objs.size], _, _, H1, rfl, I1.kept (t' := s1.toks) fun b o e => Heap.get?_push_of_some _ e, turn_list a _, ⟨_, Heap.get?_push_size _ rfl, rfl, rfl⟩, fun b hb => ?_, q⟩
    have e : b = s1.heap.objs.size := by simpa using hb
    subst e
    exact I1.fpOk (Nat.le_refl _) (I1.hok.fresh (Nat.le_refl _))
  · subst e
    cases r1
    obtain ⟨its, rv, p, hz⟩ := I1.tuple hq
    refine wpAny_pyIter_tuple (show s1.heap.IsTuple a its.toArray from p) ?_
    refine ⟨s1.heap.objs.size, [s1.heap.objs.size], _, _, H1, rfl, I1.kept (t' := s1.toks) fun b o e => Heap.get?_push_of_some _ e, turn_tuple a _, ⟨_, Heap.get?_push_size _ rfl, rfl, rfl⟩, fun b hb => ?_, q⟩
    have e : b = s1.heap.objs.size := by simpa using hb
    subst e
    exact I1.fpOk (Nat.le_refl _) (I1.hok.fresh (Nat.le_refl _))
theorem si_seq {t : TE} {w : WO} (h : SO Γ t w) : SI Γ (iSeq Γ.K t) (wIt w) := ⟨fun {T σ ρ Q Q'} S hw q => h.h S hw fun v T1 a ρ1 S1 e1 r1 q1 => by
  obtain ⟨d, rd, q1⟩ := S1.rsW r1 q1
  cases d <;> first | exact q1.elim | skip
  · cases rd with
    | sh r =>
      cases r with
      | tup hp ra => exact .inr ⟨_, rfl, ⟨_, tT S1.ok.s0 hp⟩, q _ T1 _ ρ1 S1 e1 (its_tup (fun T' l => tT l.ok.s0 (l.s0 _ _ hp)) ra) q1⟩
  · cases rd with
    | sh r =>
      cases r with
      | lst hp ra => exact .inl ⟨_, rfl, ⟨_, SqL.of (S1.ok.s0 _ _ hp)⟩, q _ T1 _ ρ1 S1 e1 (its_list (fun T' l => SqL.of (l.ok.s0 _ _ (l.s0 _ _ hp))) ra) q1⟩
    | pi hp ra => exact .inl ⟨_, rfl, ⟨_, SqL.of (S1.ok.sF _ _ hp)⟩, q _ T1 _ ρ1 S1 e1 (its_list (fun T' l => SqL.of (l.ok.sF _ _ (l.f _ _ hp))) ra) q1⟩⟩
theorem vi_seq {tg l : Expr} {tl : TE} {w : WO} (hK : X.K = Γ.K) (h : VO Γ X l tl w) : VI Γ X tg l (iSeq Γ.K tl) (wIt w) := ⟨by rw [← hK]; exact pi_seq h.pe, si_seq h.se⟩
/-- range -/
def rgD (lo : Int) (n : Nat) : List D := (List.range n).map fun i => .int (lo + (i : Nat))
theorem rgD_length {lo : Int} {n : Nat} : (rgD lo n).length = n := by simp [rgD]
theorem its_range {lo : Int} {n : Nat} : Its Γ T (Itr lo n) (rgD lo n) := by
  refine ⟨fun T' l i hi => by rw [rgD_length] at hi; exact hi, fun T' l => by rw [rgD_length]; exact Nat.le_refl _, fun T' l i d x H' hd hy => ?_⟩
  obtain ⟨rfl, rfl⟩ := hy
  have hi : i < n := by
    obtain ⟨z, _⟩ := List.getElem?_eq_some_iff.mp hd
    rw [rgD_length] at z; exact z
  unfold rgD at hd
  rw [List.getElem?_map, List.getElem?_range hi] at hd
  cases hd
  exact ⟨T', .refl l.ok, rfl, .int _⟩
@[simp] def cI1 : List D → (Int → Prop) → Prop
  | [.int j], k => k j
  | _, _ => False
@[simp] def cI2 : List D → (Int → Int → Prop) → Prop
  | [.int i, .int j], k => k i j
  | _, _ => False
@[simp] def cI3 : List D → (Int → Int → Int → Prop) → Prop
  | [.int i, .int j, .int l], k => k i j l
  | _, _ => False
theorem cI1_of {l : List D} {k : Int → Prop} (h : cI1 l k) : ∃ i, l = [.int i] ∧ k i := by
  unfold cI1 at h
  split at h
  · exact ⟨_, rfl, h⟩
  · exact h.elim
theorem cI2_of {l : List D} {k : Int → Int → Prop} (h : cI2 l k) : ∃ i j, l = [.int i, .int j] ∧ k i j := by
  unfold cI2 at h
  split at h
  · exact ⟨_, _, rfl, h⟩
  · exact h.elim
theorem cI3_of {l : List D} {k : Int → Int → Int → Prop} (h : cI3 l k) : ∃ i j m, l = [.int i, .int j, .int m] ∧ k i j m := by
  unfold cI3 at h
  split at h
  · exact ⟨_, _, _, rfl, h⟩
  · exact h.elim
@[simp] def wRg1 (w : WA) : WI := fun ρ Q => w ρ fun as ρ1 => rsN ρ1 as fun ds => cI1 ds fun j => (-(2 ^ 62) ≤ j ∧ j < 2 ^ 62) ∧ Q (rgD 0 j.toNat) ρ1
@[simp] def wRg2 (w : WA) : WI := fun ρ Q => w ρ fun as ρ1 => rsN ρ1 as fun ds => cI2 ds fun i j => (-(2 ^ 62) ≤ i ∧ i < 2 ^ 62 ∧ -(2 ^ 62) ≤ j ∧ j < 2 ^ 62) ∧ Q (rgD i (j - i).toNat) ρ1
theorem si_rg1 {t : TA} {w : WA} (h : SA Γ t w) : SI Γ (iRng1 t) (wRg1 w) := ⟨fun {T σ ρ Q Q'} S hw q => h.h S hw fun vs T1 as ρ1 S1 e1 r1 q1 => by
  obtain ⟨ds, rd, q1⟩ := S1.rsN r1 q1
  obtain ⟨j, rfl, q1⟩ := cI1_of q1
  obtain ⟨v, rfl, r⟩ := rd.one
  cases r.int
  exact ⟨j, rfl, q1.1.1, q1.1.2, q _ T1 _ ρ1 S1 e1 its_range q1.2⟩⟩
theorem si_rg2 {t : TA} {w : WA} (h : SA Γ t w) : SI Γ (iRng2 t) (wRg2 w) := ⟨fun {T σ ρ Q Q'} S hw q => h.h S hw fun vs T1 as ρ1 S1 e1 r1 q1 => by
  obtain ⟨ds, rd, q1⟩ := S1.rsN r1 q1
  obtain ⟨i, j, rfl, q1⟩ := cI2_of q1
  obtain ⟨v, u, rfl, r, r'⟩ := rd.two
  cases r.int
  cases r'.int
  exact ⟨i, j, rfl, q1.1, q _ T1 _ ρ1 S1 e1 its_range q1.2⟩⟩
theorem vi_rg1 {tg a : Expr} {ta : TA} {wa : WA} {p pos : Pos} (hg : Gl X "range") (hm : X.mg "range" = none) (ha : VA Γ X [a] ta wa) (hs : starEach [a] X.env = [(false, eval a X.env)] := by rfl) : VI Γ X tg (.Call (.Name "range" p) [a] [] pos) (iRng1 ta) (wRg1 wa) := ⟨pi_range1 hg hm ha.pe hs, si_rg1 ha.se⟩
theorem vi_rg2 {tg a b : Expr} {ta : TA} {wa : WA} {p pos : Pos} (hg : Gl X "range") (hm : X.mg "range" = none) (ha : VA Γ X [a, b] ta wa) (hs : starEach [a, b] X.env = [(false, eval a X.env), (false, eval b X.env)] := by rfl) (hs2 : starEach [b] X.env = [(false, eval b X.env)] := by rfl) : VI Γ X tg (.Call (.Name "range" p) [a, b] [] pos) (iRng2 ta) (wRg2 wa) := ⟨pi_range2 hg hm ha.pe hs hs2, si_rg2 ha.se⟩
/-! ### for, while -/
@[simp] def forV (g : WG) (b : WS) : List D → WS
  | [] => fun D ρ => D.nx ρ
  | d :: ds => fun D ρ => g d ρ fun ρ1 => b { D with nx := fun ρ2 => forV g b ds D ρ2, ct := fun ρ2 => forV g b ds D ρ2, bk := D.nx } ρ1
@[simp] def wFor (w : WI) (g : WG) (b : WS) : WS := fun D ρ => w ρ fun ds ρ1 => forV g b ds D ρ1
theorem Ext.lat {T' : Wo} (e : Ext Γ T T') (o : T'.Ok) : Lat Γ T T' := ⟨o, by rw [e.f]; exact Same.refl _, e.s0, e.da⟩
theorem ss_for {ti : TI} {g : TG} {ts : List Nat} {tb : TS} {w : WI} {wg : WG} {wb : WS} (hi : SI Γ ti w) (hg : SG Γ g ts wg) (hb : SS Γ tb wb) : SS Γ (tFor ti g tb) (wFor w wg wb) := ⟨fun {T σ ρ D D'} S hw a b c d => hi.h S hw fun J T1 ds ρ1 S1 e1 its q1 => by
  refine ⟨fun i m σ' H' => ∃ T' ρ', T'.H = H' ∧ Sv Γ T' σ' ρ' ∧ Ext Γ T1 T' ∧ forV wg wb (ds.drop i) D ρ' ∧ m = ds.length - i ∧ i ≤ ds.length, ⟨_, T1, ρ1, rfl, S1, .refl, q1, rfl, Nat.zero_le _⟩, ?_⟩
  rintro i m σ' H' ⟨T', ρ', rfl, S', e', q', rfl, hi⟩
  have lat := e'.lat S'.ok
  by_cases hlt : i < ds.length
  · rw [List.drop_eq_getElem_cons hlt] at q'
    refine .inr ⟨its.go T' lat i hlt, fun σ2 H2 => ∃ T2 ρ2, T2.H = H2 ∧ Sv Γ T2 σ2 ρ2 ∧ Ext Γ T1 T2 ∧ forV wg wb (ds.drop (i + 1)) D ρ2, ?_, fun x H2 hy => ?_⟩
    · rintro σ2 H2 ⟨T2, ρ2, h1, h2, h3, h4⟩
      exact ⟨ds.length - (i + 1), by omega, T2, ρ2, h1, h2, h3, h4, rfl, hlt⟩
    · obtain ⟨T2, g2, rfl, r2⟩ := its.yld T' lat i ds[i] x H2 (List.getElem?_eq_getElem hlt) hy
      have S2 := S'.grow g2
      have e2 : Ext Γ T1 T2 := e'.trans g2.ext
      refine hg.h S2 r2 q' fun σ3 ρ3 S3 _ q3 => hb.h S3 q3 (fun T4 σ4 ρ4 S4 e4 q4 => ⟨T4, ρ4, rfl, S4, e2.trans e4, q4⟩) (fun T4 v x o4 e4 r4 q4 => b T4 v x o4 ((e1.trans e2).trans e4) r4 q4) (fun T4 σ4 ρ4 S4 e4 q4 => a T4 σ4 ρ4 S4 ((e1.trans e2).trans e4) q4) (fun T4 σ4 ρ4 S4 e4 q4 => ⟨T4, ρ4, rfl, S4, e2.trans e4, q4⟩)
  · have z : i = ds.length := by omega
    subst z
    rw [List.drop_length] at q'
    exact .inl ⟨its.stop T' lat, a T' σ' ρ' S' (e1.trans e') q'⟩⟩
theorem vs_for {tg it : Expr} {body : List Stmt} {ti : TI} {g : TG} {ts : List Nat} {tb : TS} {w : WI} {wg : WG} {wb : WS} {pos : Pos} (hp : PassesOwn (model X.prog X.w) X.A X.env X.xe) (hc : X.calm = true) (hi : VI Γ X tg it ti w) (hg : VG Γ X tg g ts wg) (hb : VB Γ X body tb wb) (hs : ∀ x, foldedSetIterable it X.env x = pure x := by intro _; rfl) : VS Γ X (.For tg it body [] pos) (tFor ti g tb) (wFor w wg wb) := ⟨ps_for hp hc hi.pe hg.pe hb.pe hs, ss_for hi.se hg.se hb.se⟩
@[simp] def whileV (c : WT) (b : WS) : Nat → WS
  | 0 => fun _ _ => False
  | n + 1 => fun D ρ => c ρ fun k ρ1 => (k = true → b { D with nx := fun ρ2 => whileV c b n D ρ2, ct := fun ρ2 => whileV c b n D ρ2, bk := D.nx } ρ1) ∧ (k = false → D.nx ρ1)
def wWhile (c : WT) (b : WS) : WS := fun D ρ => ∃ n, whileV c b n D ρ
theorem ss_while {tc : TT} {tb : TS} {wc : WT} {wb : WS} (hc : ST Γ tc wc) (hb : SS Γ tb wb) : SS Γ (tWhile tc tb) (wWhile wc wb) := ⟨fun {T σ ρ D D'} S hw a b c d => by
  obtain ⟨n, hw⟩ := hw
  refine ⟨fun m σ' H' => ∃ T' ρ', T'.H = H' ∧ Sv Γ T' σ' ρ' ∧ Ext Γ T T' ∧ whileV wc wb m D ρ', ⟨n, T, ρ, rfl, S, .refl, hw⟩, ?_⟩
  rintro m σ' H' ⟨T', ρ', rfl, S', e', q'⟩
  cases m with
  | zero => exact q'.elim
  | succ m =>
    refine hc.h S' q' fun k T2 ρ2 S2 e2 q2 => ?_
    cases k with
    | true =>
      refine iteT ⟨fun σ2 H2 => ∃ T2 ρ2, T2.H = H2 ∧ Sv Γ T2 σ2 ρ2 ∧ Ext Γ T T2 ∧ whileV wc wb m D ρ2, fun σ2 H2 h => ⟨m, Nat.lt_succ_self _, h⟩, ?_⟩
      exact hb.h S2 (q2.1 rfl) (fun T4 σ4 ρ4 S4 e4 q4 => ⟨T4, ρ4, rfl, S4, (e'.trans e2).trans e4, q4⟩) (fun T4 v x o4 e4 r4 q4 => b T4 v x o4 ((e'.trans e2).trans e4) r4 q4) (fun T4 σ4 ρ4 S4 e4 q4 => a T4 σ4 ρ4 S4 ((e'.trans e2).trans e4) q4) (fun T4 σ4 ρ4 S4 e4 q4 => ⟨T4, ρ4, rfl, S4, (e'.trans e2).trans e4, q4⟩)
    | false => exact iteF (a T2 σ' ρ2 S2 (e'.trans e2) (q2.2 rfl))⟩
theorem vs_while {c : Expr} {body : List Stmt} {tc : TT} {tb : TS} {wc : WT} {wb : WS} {pos : Pos} (hp : PassesOwn (model X.prog X.w) X.A X.env X.xe) (hc : VT Γ X c tc wc) (hb : VB Γ X body tb wb) : VS Γ X (.While c body [] pos) (tWhile tc tb) (wWhile wc wb) := ⟨ps_while hp hc.pe hb.pe, ss_while hc.se hb.se⟩
/-! ### one's own list is pinned for a while -/
theorem Sv.pinned {p : Addr} {vs : List V} {i : Nat} {l : List D} (S : Sv Γ T σ ρ) (hi : ρ[i]? = some (.own l)) (hs : σ[i]? = some (some (.ref p))) (hp : T.H p = some (.lst vs)) (r : RA Γ T.H0 T.Hd vs l) (nF : T.F p = none) (n0 : T.H0 p = none) (nd : T.Hd p = none) :
    Sv Γ ⟨upd T.F p (.lst vs), T.H0, T.Hd, T.H, fun q => q = p ∨ T.P q⟩ σ (ρ.set i (.pin p l)) := by
  refine ⟨⟨fun b x e => ?_, S.ok.s0, S.ok.sd, fun {b x} e => ?_, fun {b x} e => ?_, S.ok.zd, fun {b us} e => ft_upd (fun _ z => by cases z) S.ok.ft e, S.ok.dt⟩, by rw [List.length_set, S.len], fun j c e => ?_, fun j k q c1 c2 e1 e2 p1 p2 e3 e4 => ?_⟩
  · dsimp only at e ⊢
    by_cases hb : b = p
    · subst hb; rw [upd_same] at e; cases e; exact hp
    · rw [upd_ne hb] at e; exact S.ok.sF _ _ e
  · dsimp only at e ⊢
    by_cases hb : b = p
    · subst hb; exact n0
    · rw [upd_ne hb] at e; exact S.ok.F0 e
  · dsimp only at e ⊢
    by_cases hb : b = p
    · subst hb; exact nd
    · rw [upd_ne hb] at e; exact S.ok.Fd e
  · rcases set_at e with ⟨rfl, hl, rfl⟩ | ⟨hj, e⟩
    · exact ⟨_, hs, vs, rfl, .inl rfl, upd_same, r⟩
    · obtain ⟨s, e1, r1⟩ := S.cell j c e
      refine ⟨s, e1, ?_⟩
      have nq : ∀ q, c.priv = true → s = some (.ref q) → q ≠ p := fun q pq z z2 => hj (S.dist i j p _ c hi e rfl pq hs (by rw [e1, z, z2]))
      cases c with
      | no => trivial
      | val d => exact r1
      | own l => obtain ⟨q, us, e2, e3, r, m1, m2⟩ := r1; exact ⟨q, us, e2, e3, r, (by dsimp only; rw [upd_ne (nq q rfl e2)]; exact m1), m2⟩
      | pin q l =>
        obtain ⟨us, e2, e0, e3, r⟩ := r1
        exact ⟨us, e2, .inr e0, (by dsimp only; rw [upd_ne (fun z => by rw [z, nF] at e3; cases e3)]; exact e3), r⟩
      | obj q c fs => obtain ⟨C, dx, vf, e2, e3, m, cl, na, r, m1, m2⟩ := r1; exact ⟨C, dx, vf, e2, e3, m, cl, na, r, (by dsimp only; rw [upd_ne (nq q rfl e2)]; exact m1), m2⟩
      | dic l => obtain ⟨q, us, e2, e3, r, m1, m2⟩ := r1; exact ⟨q, us, e2, e3, r, (by dsimp only; rw [upd_ne (nq q rfl e2)]; exact m1), m2⟩
      | dit l => obtain ⟨q, us, e2, e3, r, m1, m2⟩ := r1; exact ⟨q, us, e2, e3, r, (by dsimp only; rw [upd_ne (nq q rfl e2)]; exact m1), m2⟩
  · have f : ∀ {j : Nat} {c1 : Cell}, (ρ.set i (.pin p l))[j]? = some c1 → c1.priv = true → ∃ c', ρ[j]? = some c' ∧ c'.priv = true := fun {j c1} e pq => by
      rcases set_at e with ⟨rfl, hl, rfl⟩ | ⟨hj, e⟩
      · exact ⟨_, hi, rfl⟩
      · exact ⟨_, e, pq⟩
    obtain ⟨c1', f1, q1⟩ := f e1 p1
    obtain ⟨c2', f2, q2⟩ := f e2 p2
    exact S.dist j k q _ _ f1 f2 q1 q2 e3 e4
theorem Sv.unpinned {F : Hp} {P : Addr → Prop} {p : Addr} {vs : List V} {i : Nat} {l : List D} (S : Sv Γ T σ ρ) (hF : T.F = upd F p (.lst vs)) (hP : T.P = fun q => q = p ∨ P q) (nF : F p = none) (hi : ρ.getD i .no = .pin p l) : Sv Γ ⟨F, T.H0, T.Hd, T.H, P⟩ σ (ρ.set i (.own l)) := by
  have sF : Same F T.F := by rw [hF]; exact same_new nF
  have hi' := getD_of hi (by simp)
  obtain ⟨s, hs, us, rfl, _, hp, r⟩ := S.cell i _ hi'
  have nq : ∀ {q : Addr}, T.F q = none → q ≠ p := fun n z => by rw [z, hp] at n; cases n
  refine ⟨⟨fun b x e => S.ok.sF _ _ (sF _ _ e), S.ok.s0, S.ok.sd, fun {b x} e => S.ok.F0 (sF _ _ e), fun {b x} e => S.ok.Fd (sF _ _ e), S.ok.zd, fun {b us} e => S.ok.ft (sF _ _ e), S.ok.dt⟩, by rw [List.length_set, S.len], fun j c e => ?_, fun j k q c1 c2 e1 e2 p1 p2 e3 e4 => ?_⟩
  · rcases set_at e with ⟨rfl, hl, rfl⟩ | ⟨hj, e⟩
    · exact ⟨_, hs, p, us, rfl, S.ok.sF _ _ hp, r, nF, S.ok.F0 hp, S.ok.Fd hp⟩
    · obtain ⟨s, e1, r1⟩ := S.cell j c e
      refine ⟨s, e1, ?_⟩
      cases c with
      | no => trivial
      | val d => exact r1
      | own l => obtain ⟨q, us, e2, e3, r, m1, m2⟩ := r1; exact ⟨q, us, e2, e3, r, none_of_le sF m1, m2⟩
      | pin q l' =>
        obtain ⟨us', e2, e0, e3, r⟩ := r1
        have hq : q ≠ p := fun z => hj (S.dist i j p _ _ hi' e rfl rfl hs (by rw [e1, e2, z]))
        refine ⟨us', e2, ?_, ?_, r⟩
        · rw [hP] at e0
          exact e0.resolve_left hq
        dsimp only
        rw [hF, upd_ne hq] at e3
        exact e3
      | obj q c fs => obtain ⟨C, dx, vf, e2, e3, m, cl, na, r, m1, m2⟩ := r1; exact ⟨C, dx, vf, e2, e3, m, cl, na, r, none_of_le sF m1, m2⟩
      | dic l => obtain ⟨q, us, e2, e3, r, m1, m2⟩ := r1; exact ⟨q, us, e2, e3, r, none_of_le sF m1, m2⟩
      | dit l => obtain ⟨q, us, e2, e3, r, m1, m2⟩ := r1; exact ⟨q, us, e2, e3, r, none_of_le sF m1, m2⟩
  · have f : ∀ {j : Nat} {c1 : Cell}, (ρ.set i (.own l))[j]? = some c1 → c1.priv = true → ∃ c', ρ[j]? = some c' ∧ c'.priv = true := fun {j c1} e pq => by
      rcases set_at e with ⟨rfl, hl, rfl⟩ | ⟨hj, e⟩
      · exact ⟨_, hi', rfl⟩
      · exact ⟨_, e, pq⟩
    obtain ⟨c1', f1, q1⟩ := f e1 p1
    obtain ⟨c2', f2, q2⟩ := f e2 p2
    exact S.dist j k q _ _ f1 f2 q1 q2 e3 e4
end
end Vl

namespace Vl
open PySem PySem.Spec PyProof.Rows L2 Hl

section
variable {Γ : Gx} {X : Cx} {T : Wo} {σ : L2.St} {ρ : Vn}
/-- the slot is pinned while w runs -/
@[simp] def wPinS (i : Nat) (w : WS) : WS := fun D ρ => cOwn (ρ.getD i .no) fun l => ∀ p, w { nx := fun ρ' => ρ'.getD i .no = .pin p l ∧ D.nx (ρ'.set i (.own l)), rt := D.rt, bk := fun ρ' => ρ'.getD i .no = .pin p l ∧ D.bk (ρ'.set i (.own l)), ct := fun ρ' => ρ'.getD i .no = .pin p l ∧ D.ct (ρ'.set i (.own l)) } (ρ.set i (.pin p l))
@[simp] def wPinE (i : Nat) (w : WE) : WE := fun ρ Q => cOwn (ρ.getD i .no) fun l => ∀ p, w (ρ.set i (.pin p l)) fun d ρ' => ρ'.getD i .no = .pin p l ∧ Q d (ρ'.set i (.own l))
@[simp] def wPinF (i : Nat) (w : WF) : WF := fun ρ Q => cOwn (ρ.getD i .no) fun l => ∀ p, w (ρ.set i (.pin p l)) fun d ρ' => ρ'.getD i .no = .pin p l ∧ Q d (ρ'.set i (.own l))
theorem pin_ext {F : Hp} {P : Addr → Prop} {p : Addr} {o : HO} {T' : Wo} (e : Ext Γ ⟨upd F p o, T.H0, T.Hd, T.H, P⟩ T') (h : T.F = F) : Ext Γ T ⟨F, T'.H0, T'.Hd, T'.H, T.P⟩ := ⟨h.symm, rfl, e.s0, e.da⟩
theorem ss_pin {i : Nat} {t : TS} {w : WS} (h : SS Γ t w) : SS Γ t (wPinS i w) := ⟨fun {T σ ρ D D'} S hw a b c d => by
  obtain ⟨p, vs, l, hi, hs, hp, r, nF, n0, nd, hw⟩ := S.ownAt hw
  refine h.h (T := ⟨upd T.F p (.lst vs), T.H0, T.Hd, T.H, fun q => q = p ∨ T.P q⟩) (S.pinned hi hs hp r nF n0 nd) (hw p) (fun T1 σ1 ρ1 S1 e1 q1 => ?_) (fun T1 v x o1 e1 r1 q1 => ?_) (fun T1 σ1 ρ1 S1 e1 q1 => ?_) (fun T1 σ1 ρ1 S1 e1 q1 => ?_)
  · exact a ⟨T.F, T1.H0, T1.Hd, T1.H, T.P⟩ σ1 _ (S1.unpinned e1.f e1.p nF q1.1) (pin_ext e1 rfl) q1.2
  · have sF : Same T.F T1.F := by rw [e1.f]; exact same_new nF
    exact b ⟨T.F, T1.H0, T1.Hd, T1.H, T.P⟩ v x ⟨fun b x e => o1.sF _ _ (sF _ _ e), o1.s0, o1.sd, fun {b x} e => o1.F0 (sF _ _ e), fun {b x} e => o1.Fd (sF _ _ e), o1.zd, fun {b us} e => o1.ft (sF _ _ e), o1.dt⟩ (pin_ext e1 rfl) r1 q1
  · exact c ⟨T.F, T1.H0, T1.Hd, T1.H, T.P⟩ σ1 _ (S1.unpinned e1.f e1.p nF q1.1) (pin_ext e1 rfl) q1.2
  · exact d ⟨T.F, T1.H0, T1.Hd, T1.H, T.P⟩ σ1 _ (S1.unpinned e1.f e1.p nF q1.1) (pin_ext e1 rfl) q1.2⟩
theorem se_pin {i : Nat} {t : TE} {w : WE} (h : SE Γ t w) : SE Γ t (wPinE i w) := ⟨fun {T σ ρ Q Q'} S hw q => by
  obtain ⟨p, vs, l, hi, hs, hp, r, nF, n0, nd, hw⟩ := S.ownAt hw
  exact h.h (T := ⟨upd T.F p (.lst vs), T.H0, T.Hd, T.H, fun q => q = p ∨ T.P q⟩) (S.pinned hi hs hp r nF n0 nd) (hw p) fun v T1 d ρ1 S1 e1 r1 q1 => q v ⟨T.F, T1.H0, T1.Hd, T1.H, T.P⟩ d _ (S1.unpinned e1.f e1.p nF q1.1) (pin_ext e1 rfl) r1 q1.2⟩
theorem sf_pin {i : Nat} {t : TE} {w : WF} (h : SF Γ t w) : SF Γ t (wPinF i w) := ⟨fun {T σ ρ Q Q'} S hw q => by
  obtain ⟨p, vs, l, hi, hs, hp, r, nF, n0, nd, hw⟩ := S.ownAt hw
  exact h.h (T := ⟨upd T.F p (.lst vs), T.H0, T.Hd, T.H, fun q => q = p ∨ T.P q⟩) (S.pinned hi hs hp r nF n0 nd) (hw p) fun p1 vs1 T1 d ρ1 S1 e1 hp1 nF1 n01 nd1 hn1 r1 q1 => by
    have sF : Same T.F T1.F := by rw [e1.f]; exact same_new nF
    refine q p1 vs1 ⟨T.F, T1.H0, T1.Hd, T1.H, T.P⟩ d _ (S1.unpinned e1.f e1.p nF q1.1) (pin_ext e1 rfl) hp1 (none_of_le sF nF1) n01 nd1 (fun j c ec pc => ?_) r1 q1.2
    rcases set_at ec with ⟨rfl, hl, rfl⟩ | ⟨hj, ec⟩
    · exact hn1 i _ (getD_of q1.1 (by simp)) rfl
    · exact hn1 j c ec pc⟩
theorem vs_pin {st : Stmt} {t : TS} {w : WS} (i : Nat) (h : VS Γ X st t w) : VS Γ X st t (wPinS i w) := ⟨h.pe, ss_pin h.se⟩
theorem ve_pin {e : Expr} {t : TE} {w : WE} (i : Nat) (h : VE Γ X e t w) : VE Γ X e t (wPinE i w) := ⟨h.pe, se_pin h.se⟩
theorem vf_pin {e : Expr} {t : TE} {w : WF} (i : Nat) (h : VF Γ X e t w) : VF Γ X e t (wPinF i w) := ⟨h.pe, sf_pin h.se⟩

/-! ### comprehensions -/
@[simp] def wipeV (ρ : Vn) : List Nat → Vn
  | [] => ρ
  | v :: vs => (wipeV ρ vs).set v .no
/-- behind the block the names outside stand as before -/
@[simp] def backV (ρ0 ρ : Vn) : List Nat → Vn
  | [] => ρ
  | v :: vs => match ρ0.getD v .no with
    | .val d => (backV ρ0 ρ vs).set v (.val d)
    | _ => backV ρ0 ρ vs
@[simp] def lcV (g : WG) (c : WT) (w : WE) (vs : List Nat) : List D → List D → Vn → (List D → Vn → Prop) → Prop
  | [], acc, ρ, Q => Q acc ρ
  | d :: ds, acc, ρ, Q => g d ρ fun ρ1 => c ρ1 fun b ρ2 => (b = true → w ρ2 fun y ρ3 => acc.length < sizeLine ∧ lcV g c w vs ds (acc ++ [y]) (wipeV ρ3 vs) Q) ∧ (b = false → lcV g c w vs ds acc (wipeV ρ2 vs) Q)
@[simp] def wLc (wi : WI) (g : WG) (c : WT) (w : WE) (vs : List Nat) : WF := fun ρ Q => wi ρ fun ds ρ1 => lcV g c w vs ds [] (wipeV ρ1 vs) fun l ρ2 => Q l (backV ρ1 ρ2 vs)
@[simp] def wYes : WT := fun ρ Q => Q true ρ
theorem st_yes : ST Γ tYes wYes := ⟨fun {T σ ρ Q Q'} S hw q => q true T ρ S .refl hw⟩
theorem wipe_at {σ : L2.St} {j : Nat} : ∀ {vs : List Nat}, (j ∉ vs → (wipe σ vs)[j]? = σ[j]?) ∧ (j ∈ vs → j < σ.length → (wipe σ vs)[j]? = some none)
  | [] => ⟨fun _ => rfl, fun h => by simp at h⟩
  | v :: vs => by
    obtain ⟨h1, h2⟩ := wipe_at (σ := σ) (j := j) (vs := vs)
    unfold wipe
    refine ⟨fun hj => ?_, fun hj hl => ?_⟩
    · rw [List.mem_cons, not_or] at hj
      rw [List.getElem?_set_ne (Ne.symm hj.1)]
      exact h1 hj.2
    · by_cases hv : v = j
      · subst hv
        rw [List.getElem?_set_self (by rw [wipe_length]; exact hl)]
      · rw [List.getElem?_set_ne hv]
        rcases List.mem_cons.mp hj with z | z
        · exact absurd z.symm hv
        · exact h2 z hl
theorem wipeV_length (ρ : Vn) : ∀ vs : List Nat, (wipeV ρ vs).length = ρ.length
  | [] => rfl
  | v :: vs => by unfold wipeV; rw [List.length_set, wipeV_length ρ vs]
theorem wipeV_at {ρ : Vn} {j : Nat} {c : Cell} : ∀ {vs : List Nat}, (wipeV ρ vs)[j]? = some c → c = .no ∨ (j ∉ vs ∧ ρ[j]? = some c)
  | [], h => .inr ⟨by simp, h⟩
  | v :: vs, h => by
    unfold wipeV at h
    rcases set_at h with ⟨rfl, hl, rfl⟩ | ⟨hj, h⟩
    · exact .inl rfl
    · rcases wipeV_at h with z | ⟨z, h⟩
      · exact .inl z
      · exact .inr ⟨by rw [List.mem_cons, not_or]; exact ⟨fun e => hj e.symm, z⟩, h⟩
/-- the block's own names forgotten -/
theorem Sv.wiped {σ' : L2.St} {vs : List Nat} (S : Sv Γ T σ ρ) (hl : σ'.length = σ.length) (hs : ∀ j, j ∉ vs → σ'[j]? = σ[j]?) : Sv Γ T σ' (wipeV ρ vs) := by
  refine ⟨S.ok, by rw [hl, S.len, wipeV_length], fun j c e => ?_, fun j k p c1 c2 e1 e2 p1 p2 e3 e4 => ?_⟩
  · rcases wipeV_at e with rfl | ⟨hj, e'⟩
    · have h : j < ρ.length := by
        obtain ⟨z, _⟩ := List.getElem?_eq_some_iff.mp e
        rwa [wipeV_length] at z
      exact ⟨_, List.getElem?_eq_getElem (by rw [hl, S.len]; exact h), trivial⟩
    · obtain ⟨s, e1, r⟩ := S.cell j c e'
      exact ⟨s, by rw [hs j hj]; exact e1, r⟩
  · rcases wipeV_at e1 with rfl | ⟨hj, e1⟩
    · cases p1
    · rcases wipeV_at e2 with rfl | ⟨hk, e2⟩
      · cases p2
      · rw [hs j hj] at e3
        rw [hs k hk] at e4
        exact S.dist j k p c1 c2 e1 e2 p1 p2 e3 e4
theorem wipe_eq {σ σ' : L2.St} {vs : List Nat} (hl : σ'.length = σ.length) (hs : ∀ j, j ∉ vs → σ'[j]? = σ[j]?) : wipe σ' vs = wipe σ vs := by
  apply List.ext_getElem?
  intro j
  by_cases hj : j ∈ vs
  · by_cases h : j < σ.length
    · rw [(wipe_at).2 hj h, (wipe_at).2 hj (by rw [hl]; exact h)]
    · rw [List.getElem?_eq_none (by rw [wipe_length, hl]; omega), List.getElem?_eq_none (by rw [wipe_length]; omega)]
  · rw [(wipe_at).1 hj, (wipe_at).1 hj, hs j hj]
theorem Sv.back {ρ0 : Vn} {T0 : Wo} (S0 : Sv Γ T0 σ ρ0) (e : Ext Γ T0 T) : ∀ {vs : List Nat}, Sv Γ T σ ρ → Sv Γ T σ (backV ρ0 ρ vs)
  | [], S => S
  | v :: vs, S => by
    unfold backV
    split
    · rename_i d ed
      refine (Sv.back S0 e S).re (fun s hs _ => ?_) fun z => nomatch z
      obtain ⟨s', e1, v, e2, r⟩ := S0.cell _ _ (getD_of ed (by simp))
      rw [hs] at e1; cases e1
      exact ⟨v, e2, R.ext e r⟩
    · exact Sv.back S0 e S
theorem Sv.reF {D : Addr} {o : HO} (S : Sv Γ T σ ρ) (ho : ∀ us, o ≠ .tup us) (hD : T.H D = some o) (nF : T.F D = none) (n0 : T.H0 D = none) (nd : T.Hd D = none) (hn : ∀ (j : Nat) (c : Cell), ρ[j]? = some c → c.priv = true → σ[j]? ≠ some (some (.ref D))) : Sv Γ ⟨upd T.F D o, T.H0, T.Hd, T.H, fun q => T.P q ∧ q ≠ D⟩ σ ρ := by
  refine ⟨⟨fun b x e => ?_, S.ok.s0, S.ok.sd, fun {b x} e => ?_, fun {b x} e => ?_, S.ok.zd, fun {b us} e => ft_upd ho S.ok.ft e, S.ok.dt⟩, S.len, fun j c e => ?_, S.dist⟩
  · dsimp only at e ⊢
    by_cases hb : b = D
    · subst hb; rw [upd_same] at e; cases e; exact hD
    · rw [upd_ne hb] at e; exact S.ok.sF _ _ e
  · dsimp only at e ⊢
    by_cases hb : b = D
    · subst hb; exact n0
    · rw [upd_ne hb] at e; exact S.ok.F0 e
  · dsimp only at e ⊢
    by_cases hb : b = D
    · subst hb; exact nd
    · rw [upd_ne hb] at e; exact S.ok.Fd e
  · obtain ⟨s, e1, r1⟩ := S.cell j c e
    refine ⟨s, e1, ?_⟩
    have nq : ∀ q, c.priv = true → s = some (.ref q) → q ≠ D := fun q pq z z2 => hn j c e pq (by rw [e1, z, z2])
    cases c with
    | no => trivial
    | val d => exact r1
    | own l => obtain ⟨q, us, e2, e3, r, m1, m2⟩ := r1; exact ⟨q, us, e2, e3, r, (by dsimp only; rw [upd_ne (nq q rfl e2)]; exact m1), m2⟩
    | pin q l => obtain ⟨us, e2, e0, e3, r⟩ := r1; exact ⟨us, e2, ⟨e0, nq q rfl e2⟩, (by dsimp only; rw [upd_ne (nq q rfl e2)]; exact e3), r⟩
    | obj q c fs => obtain ⟨C, dx, vf, e2, e3, m, cl, na, r, m1, m2⟩ := r1; exact ⟨C, dx, vf, e2, e3, m, cl, na, r, (by dsimp only; rw [upd_ne (nq q rfl e2)]; exact m1), m2⟩
    | dic l => obtain ⟨q, us, e2, e3, r, m1, m2⟩ := r1; exact ⟨q, us, e2, e3, r, (by dsimp only; rw [upd_ne (nq q rfl e2)]; exact m1), m2⟩
    | dit l => obtain ⟨q, us, e2, e3, r, m1, m2⟩ := r1; exact ⟨q, us, e2, e3, r, (by dsimp only; rw [upd_ne (nq q rfl e2)]; exact m1), m2⟩
/-- the accumulator is stored; the outer part is as it was -/
theorem Sv.unreF {F : Hp} {P : Addr → Prop} {D : Addr} {o o' : HO} (S : Sv Γ T σ ρ) (hF : T.F = upd F D o) (hP : T.P = fun q => P q ∧ q ≠ D) (nF : F D = none) :
    Sv Γ ⟨F, T.H0, T.Hd, upd T.H D o', P⟩ σ ρ ∧ T.H D = some o ∧ T.H0 D = none ∧ T.Hd D = none := by
  have sF : Same F T.F := by rw [hF]; exact same_new nF
  have fD : T.F D = some o := by rw [hF]; exact upd_same
  have n0 := S.ok.F0 fD
  have nd := S.ok.Fd fD
  have ne : ∀ {A : Hp} {b x}, A D = none → A b = some x → b ≠ D := fun hn e z => by rw [z, hn] at e; cases e
  refine ⟨⟨⟨fun b x e => ?_, fun b x e => ?_, fun b x e => ?_, fun {b x} e => S.ok.F0 (sF _ _ e), fun {b x} e => S.ok.Fd (sF _ _ e), S.ok.zd, fun {b us} e => S.ok.ft (sF _ _ e), S.ok.dt⟩, S.len, fun j c e => ?_, S.dist⟩, S.ok.sF _ _ fD, n0, nd⟩
  · dsimp only at e ⊢; rw [upd_ne (ne nF e)]; exact S.ok.sF _ _ (sF _ _ e)
  · dsimp only at e ⊢; rw [upd_ne (ne n0 e)]; exact S.ok.s0 _ _ e
  · dsimp only at e ⊢; rw [upd_ne (ne nd e)]; exact S.ok.sd _ _ e
  · obtain ⟨s, e1, r1⟩ := S.cell j c e
    refine ⟨s, e1, ?_⟩
    have nq : ∀ {q}, T.F q = none → q ≠ D := fun m z => by rw [z, fD] at m; cases m
    cases c with
    | no => trivial
    | val d => exact r1
    | own l => obtain ⟨q, us, e2, e3, r, m1, m2⟩ := r1; exact ⟨q, us, e2, (by dsimp only; rw [upd_ne (nq m1)]; exact e3), r, none_of_le sF m1, m2⟩
    | pin q l => obtain ⟨us, e2, e0, e3, r⟩ := r1; rw [hP] at e0; exact ⟨us, e2, e0.1, (by dsimp only; rw [hF, upd_ne e0.2] at e3; exact e3), r⟩
    | obj q c fs => obtain ⟨C, dx, vf, e2, e3, m, cl, na, r, m1, m2⟩ := r1; exact ⟨C, dx, vf, e2, (by dsimp only; rw [upd_ne (nq m1)]; exact e3), m, cl, na, r, none_of_le sF m1, m2⟩
    | dic l => obtain ⟨q, us, e2, e3, r, m1, m2⟩ := r1; exact ⟨q, us, e2, (by dsimp only; rw [upd_ne (nq m1)]; exact e3), r, none_of_le sF m1, m2⟩
    | dit l => obtain ⟨q, us, e2, e3, r, m1, m2⟩ := r1; exact ⟨q, us, e2, (by dsimp only; rw [upd_ne (nq m1)]; exact e3), r, none_of_le sF m1, m2⟩
theorem Sv.rewiped {σ' : L2.St} {vs : List Nat} {ρ : Vn} (S : Sv Γ T σ (wipeV ρ vs)) (hl : σ'.length = σ.length) (hs : ∀ j, j ∉ vs → σ'[j]? = σ[j]?) : Sv Γ T σ' (wipeV ρ vs) := by
  refine ⟨S.ok, by rw [hl, S.len], fun j c e => ?_, fun j k p c1 c2 e1 e2 p1 p2 e3 e4 => ?_⟩
  · rcases wipeV_at e with rfl | ⟨hj, _⟩
    · have h : j < ρ.length := by
        obtain ⟨z, _⟩ := List.getElem?_eq_some_iff.mp e
        rwa [wipeV_length] at z
      exact ⟨_, List.getElem?_eq_getElem (by rw [hl, S.len, wipeV_length]; exact h), trivial⟩
    · obtain ⟨s, e1, r⟩ := S.cell j c e
      exact ⟨s, by rw [hs j hj]; exact e1, r⟩
  · rcases wipeV_at e1 with rfl | ⟨hj, _⟩
    · cases p1
    · rcases wipeV_at e2 with rfl | ⟨hk, _⟩
      · cases p2
      · rw [hs j hj] at e3
        rw [hs k hk] at e4
        exact S.dist j k p c1 c2 e1 e2 p1 p2 e3 e4
theorem back_priv {ρ0 : Vn} {j : Nat} {c : Cell} : ∀ {vs : List Nat} {ρ : Vn}, (backV ρ0 ρ vs)[j]? = some c → c.priv = true → ρ[j]? = some c
  | [], _, h, _ => h
  | v :: vs, ρ, h, pc => by
    unfold backV at h
    split at h
    · rcases set_at h with ⟨rfl, hl, rfl⟩ | ⟨hj, h⟩
      · cases pc
      · exact back_priv h pc
    · exact back_priv h pc
/-- nobody's slot holds what stands in the outer part, but pins -/
theorem sf_lc {ti : TI} {g : TG} {tt : TT} {te : TE} {ts vs : List Nat} {wi : WI} {wg : WG} {wc : WT} {we : WE} (hi : SI Γ ti wi) (hg : SG Γ g ts wg) (hc : ST Γ tt wc) (he : SE Γ te we) (hts : ∀ j ∈ ts, j ∈ vs) : SF Γ (tLc ti g tt te vs) (wLc wi wg wc we vs) := ⟨fun {T σ ρ Q Q'} S hw q => hi.h S hw fun J T1 ds ρ1 S1 e1 its q1 => by
  intro D nD
  have nF := none_of_le S1.ok.sF nD
  have n0 := none_of_le S1.ok.s0 nD
  have nd := none_of_le S1.ok.sd nD
  have notD : ∀ (j : Nat) (c : Cell), (wipeV ρ1 vs)[j]? = some c → c.priv = true → σ[j]? ≠ some (some (.ref D)) := fun j c ec pc => by
    rcases wipeV_at ec with rfl | ⟨_, ec⟩
    · cases pc
    · exact fresh_priv S1 nD j c ec pc
  refine ⟨fun i m H' => ∃ T' ρ' us acc, T'.H = H' ∧ Sv Γ T' σ (wipeV ρ' vs) ∧ Ext Γ T1 T' ∧ H' D = some (.lst us) ∧ T'.H0 D = none ∧ T'.Hd D = none ∧ (∀ (j : Nat) (c : Cell), (wipeV ρ' vs)[j]? = some c → c.priv = true → σ[j]? ≠ some (some (.ref D))) ∧ RA Γ T'.H0 T'.Hd us acc ∧ lcV wg wc we vs (ds.drop i) acc (wipeV ρ' vs) (fun l ρ2 => Q l (backV ρ1 ρ2 vs)) ∧ m = ds.length - i ∧ i ≤ ds.length, ⟨_, ⟨T1.F, T1.H0, T1.Hd, upd T1.H D (.lst []), T1.P⟩, ρ1, [], [], rfl, ?_, (Gr.priv S1.ok nD).ext, upd_same, n0, nd, notD, .nil, q1, rfl, Nat.zero_le _⟩, ?_⟩
  · exact (S1.grow (Gr.priv S1.ok nD)).wiped rfl fun _ _ => rfl
  rintro i m H' ⟨T', ρ', us, acc, rfl, S', e', hD, n0', nd', nn', ra, q', rfl, hi⟩
  have lat := e'.lat S'.ok
  have nF' : T'.F D = none := by rw [e'.f]; exact nF
  by_cases hlt : i < ds.length
  · rw [List.drop_eq_getElem_cons hlt] at q'
    -- the turn, the accumulator in the outer part
    have Sp := S'.reF (fun _ z => by cases z) hD nF' n0' nd' nn'
    have latp : Lat Γ T1 ⟨upd T'.F D (.lst us), T'.H0, T'.Hd, T'.H, fun q => T'.P q ∧ q ≠ D⟩ := ⟨Sp.ok, lat.f.trans (same_new nF'), lat.s0, lat.da⟩
    refine .inr ⟨its.go _ latp i hlt, fun H2 => ∃ T' ρ' us acc, T'.H = H2 ∧ Sv Γ T' σ (wipeV ρ' vs) ∧ Ext Γ T1 T' ∧ H2 D = some (.lst us) ∧ T'.H0 D = none ∧ T'.Hd D = none ∧ (∀ (j : Nat) (c : Cell), (wipeV ρ' vs)[j]? = some c → c.priv = true → σ[j]? ≠ some (some (.ref D))) ∧ RA Γ T'.H0 T'.Hd us acc ∧ lcV wg wc we vs (ds.drop (i + 1)) acc (wipeV ρ' vs) (fun l ρ2 => Q l (backV ρ1 ρ2 vs)), ?_, fun x H2 hy => ?_⟩
    · rintro H2 ⟨T2, ρ2, us2, acc2, h1, h2, h3, h4, h5, h6, h7, h8, h9⟩
      exact ⟨ds.length - (i + 1), by omega, T2, ρ2, us2, acc2, h1, h2, h3, h4, h5, h6, h7, h8, h9, rfl, hlt⟩
    · obtain ⟨T2, g2, rfl, r2⟩ := its.yld _ latp i ds[i] x H2 (List.getElem?_eq_getElem hlt) hy
      have S2 := Sp.grow g2
      have S2w : Sv Γ T2 (wipe σ vs) (wipeV ρ' vs) := S2.rewiped (wipe_length σ vs) fun j hj => (wipe_at).1 hj
      have E2 : Ext Γ ⟨upd T'.F D (.lst us), T'.H0, T'.Hd, T'.H, fun q => T'.P q ∧ q ≠ D⟩ T2 := g2.ext
      refine hg.h S2w r2 q' fun σ3 ρ3 S3 so3 q3 => ?_
      have l3 : σ3.length = σ.length := so3.1.trans (wipe_length σ vs)
      have o3 : ∀ j, j ∉ vs → σ3[j]? = σ[j]? := fun j hj => (so3.2 j fun z => hj (hts j z)).trans ((wipe_at).1 hj)
      -- behind a turn: the accumulator again one's own
      have fin : ∀ (T5 : Wo) (ρ5 : Vn) (us' : List V) (acc' : List Vl.D), Sv Γ T5 σ3 ρ5 → Ext Γ ⟨upd T'.F D (.lst us), T'.H0, T'.Hd, T'.H, fun q => T'.P q ∧ q ≠ D⟩ T5 → RA Γ T5.H0 T5.Hd us' acc' → lcV wg wc we vs (ds.drop (i + 1)) acc' (wipeV ρ5 vs) (fun l ρ2 => Q l (backV ρ1 ρ2 vs)) → T5.H D = some (.lst us) ∧
          ∃ T' ρ' us'' acc, T'.H = upd T5.H D (.lst us') ∧ Sv Γ T' σ (wipeV ρ' vs) ∧ Ext Γ T1 T' ∧ upd T5.H D (.lst us') D = some (.lst us'') ∧ T'.H0 D = none ∧ T'.Hd D = none ∧ (∀ (j : Nat) (c : Cell), (wipeV ρ' vs)[j]? = some c → c.priv = true → σ[j]? ≠ some (some (.ref D))) ∧ RA Γ T'.H0 T'.Hd us'' acc ∧ lcV wg wc we vs (ds.drop (i + 1)) acc (wipeV ρ' vs) (fun l ρ2 => Q l (backV ρ1 ρ2 vs)) := by
        intro T5 ρ5 us' acc' S5 E5 r5 q5
        obtain ⟨S6, hD5, n05, nd5⟩ := S5.unreF (o' := .lst us') E5.f E5.p nF'
        have S7 := S6.wiped (σ' := σ) (vs := vs) l3.symm fun j hj => (o3 j hj).symm
        have fD : T5.F D = some (.lst us) := by rw [E5.f]; exact upd_same
        refine ⟨hD5, _, ρ5, us', acc', rfl, S7, ⟨e'.f, e'.p, e'.s0.trans E5.s0, fun a h => E5.da a (e'.da a h)⟩, upd_same, n05, nd5, fun j c ec pc z => ?_, r5, q5⟩
        rcases wipeV_at ec with rfl | ⟨hj, ec⟩
        · cases pc
        obtain ⟨s, e1, r⟩ := S5.cell j c ec
        rw [o3 j hj, z] at e1
        cases e1
        cases c with
        | own l => obtain ⟨q, vs, e2, _, _, m1, _⟩ := r; cases e2; rw [fD] at m1; cases m1
        | obj q c l => obtain ⟨C, dx, vs, e2, _, _, _, _, _, m1, _⟩ := r; cases e2; rw [fD] at m1; cases m1
        | dic l => obtain ⟨q, vs, e2, _, _, m1, _⟩ := r; cases e2; rw [fD] at m1; cases m1
        | dit l => obtain ⟨q, vs, e2, _, _, m1, _⟩ := r; cases e2; rw [fD] at m1; cases m1
        | pin q l => obtain ⟨vs, e2, e0, _⟩ := r; cases e2; rw [E5.p] at e0; exact e0.2 rfl
        | _ => cases pc
      refine ⟨wipe_eq l3 o3, hc.h S3 q3 fun b T4 ρ4 S4 e4 q4 => ?_⟩
      have E4 := E2.trans e4
      cases b with
      | true =>
        refine iteT (he.h S4 (q4.1 rfl) fun y T5 d ρ5 S5 e5 r5 q5 => ?_)
        have E5 := E4.trans e5
        obtain ⟨hD5, N⟩ := fin T5 ρ5 (us ++ [y]) (acc ++ [d]) S5 E5 ((ra.mono E5.s0 E5.da).app (.cons r5 .nil)) q5.2
        exact ⟨us, hD5, by rw [ra.len]; exact q5.1, N⟩
      | false =>
        refine iteF ?_
        obtain ⟨hD5, N⟩ := fin T4 ρ4 us acc S4 E4 (ra.mono E4.s0 E4.da) (q4.2 rfl)
        have z : upd T4.H D (.lst us) = T4.H := by
          funext b
          by_cases hb : b = D
          · subst hb; rw [upd_same, hD5]
          · rw [upd_ne hb]
        rw [z] at N
        exact N
  · have z : i = ds.length := by omega
    subst z
    rw [List.drop_length] at q'
    refine .inl ⟨its.stop T' lat, ?_⟩
    exact q D us T' acc (backV ρ1 (wipeV ρ' vs) vs) (Sv.back S1 e' S') (e1.trans e') hD nF' n0' nd' (fun j c ec pc => nn' j c (back_priv ec pc) pc) ra q'⟩
variable {elt tg iter : Expr} {ifs : List Expr} {scope : Scope} {own : List (Str × Nat)} {pos : Pos} {ti : TI} {g : TG} {tt : TT} {te : TE} {ts : List Nat} {wi : WI} {wg : WG} {wc : WT} {we : WE}
structure VTs (Γ : Gx) (X : Cx) (ifs : List Expr) (t : TT) (w : WT) : Prop where
  pe : PTs X ifs t
  se : ST Γ t w
theorem vts_nil : VTs Γ X [] tYes wYes := ⟨pts_nil, st_yes⟩
theorem vts_one {c : Expr} {t : TT} {w : WT} (h : VT Γ X c t w) : VTs Γ X [c] t w := ⟨pts_one h.pe, h.se⟩
theorem vf_lc (hc : X.calm = true) (hN : X.N.Nodup) (hi : VI Γ X tg iter ti wi) (ok : BlkOk X.N X.env.scope scope own)
    (hg : ∀ (s : Shared) (H : Hp) (C : Addr) (cl : List (Str × Addr)) (fp : List Addr), VG Γ (X.blk s H scope (compEnvC scope cl C X.env) fp) tg g ts wg) (ht : ∀ (s : Shared) (H : Hp) (C : Addr) (cl : List (Str × Addr)) (fp : List Addr), VTs Γ (X.blk s H scope (compEnvC scope cl C X.env) fp) ifs tt wc)
    (he : ∀ (s : Shared) (H : Hp) (C : Addr) (cl : List (Str × Addr)) (fp : List Addr), VE Γ (X.blk s H scope (compEnvC scope cl C X.env) fp) elt te we) (hs : ∀ x, foldedSetIterable iter X.env x = pure x := by intro _; rfl) (hts : ∀ j ∈ ts, j ∈ own.map (·.2) := by decide) :
    VF Γ X (.ListComp elt [⟨tg, iter, ifs, 0⟩] scope pos) (tLc ti g tt te (own.map (·.2))) (wLc wi wg wc we (own.map (·.2))) :=
  ⟨pe_lc hc hN hi.pe ok (fun s H C cl fp => (hg s H C cl fp).pe) (fun s H C cl fp => (ht s H C cl fp).pe) (fun s H C cl fp => (he s H C cl fp).pe) hs, sf_lc hi.se (hg ({} : Shared) (fun _ => none) 0 [] []).se (ht ({} : Shared) (fun _ => none) 0 [] []).se (he ({} : Shared) (fun _ => none) 0 [] []).se hts⟩
theorem vs_setLc {i : Nat} {y : Str} {py : Pos} {spos : Pos} (hc : X.calm = true) (hN : X.N.Nodup) (hy : X.N[i]? = some y) (hyl : X.env.scope.names.lookup y = some .local)
    (hsw : swapsWith (.ListComp elt [⟨tg, iter, ifs, 0⟩] scope pos) (some (.Name y py)) spos.line X.env = pure true) (hi : VI Γ X tg iter ti wi) (ok : BlkOk X.N X.env.scope scope own)
    (hg : ∀ (s : Shared) (H : Hp) (C : Addr) (cl : List (Str × Addr)) (fp : List Addr), VG Γ (X.blk s H scope (compEnvC scope cl C X.env) fp) tg g ts wg) (ht : ∀ (s : Shared) (H : Hp) (C : Addr) (cl : List (Str × Addr)) (fp : List Addr), VTs Γ (X.blk s H scope (compEnvC scope cl C X.env) fp) ifs tt wc)
    (he : ∀ (s : Shared) (H : Hp) (C : Addr) (cl : List (Str × Addr)) (fp : List Addr), VE Γ (X.blk s H scope (compEnvC scope cl C X.env) fp) elt te we) (hs : ∀ x, foldedSetIterable iter X.env x = pure x := by intro _; rfl) (hts : ∀ j ∈ ts, j ∈ own.map (·.2) := by decide) :
    VS Γ X (.Assign [.Name y py] (.ListComp elt [⟨tg, iter, ifs, 0⟩] scope pos) spos) (tAsg (tLc ti g tt te (own.map (·.2))) (gName i)) (wSetF i (wLc wi wg wc we (own.map (·.2)))) :=
  ⟨ps_setLc hc hN hy hyl hsw hi.pe ok (fun s H C cl fp => (hg s H C cl fp).pe) (fun s H C cl fp => (ht s H C cl fp).pe) (fun s H C cl fp => (he s H C cl fp).pe) hs, ss_setF (sf_lc hi.se (hg ({} : Shared) (fun _ => none) 0 [] []).se (ht ({} : Shared) (fun _ => none) 0 [] []).se (he ({} : Shared) (fun _ => none) 0 [] []).se hts)⟩
end
end Vl

namespace Vl
open PySem PySem.Spec PyProof.Rows L2 Hl

/-! ### calls of the text's own defs -/
abbrev WF1 := List D → (D → Prop) → Prop
mutual
/-- no list in it -/
def D.free : D → Bool
  | .tup l => D.freeL l
  | .lst _ => false
  | .scr _ => false
  | .dct _ => false
  | .set _ => false
  | .obj _ fs => D.freeF fs
  | _ => true
def D.freeL : List D → Bool
  | [] => true
  | d :: l => d.free && D.freeL l
def D.freeF : List (Str × D) → Bool
  | [] => true
  | (_, d) :: l => d.free && D.freeF l
end
section
variable {Γ : Gx} {X : Cx} {T : Wo} {σ : L2.St} {ρ : Vn}
/-- behind what leaves one's own as it is -/
theorem Sv.after {H0' Hd' H' : Hp} (S : Sv Γ T σ ρ) (ok : Wo.Ok ⟨T.F, H0', Hd', H', T.P⟩) (s0 : Same T.H0 H0') (da : ∀ a, Γ.DA T.Hd a → Γ.DA Hd' a)
    (hp : ∀ p x, (∀ us, x ≠ .tup us) → T.H p = some x → T.H0 p = none → T.Hd p = none → H' p = some x ∧ H0' p = none ∧ Hd' p = none) : Sv Γ ⟨T.F, H0', Hd', H', T.P⟩ σ ρ := by
  refine ⟨ok, S.len, fun i c e => ?_, S.dist⟩
  obtain ⟨s, e1, r1⟩ := S.cell i c e
  refine ⟨s, e1, ?_⟩
  cases c with
  | no => trivial
  | val d => obtain ⟨v, e2, r⟩ := r1; exact ⟨v, e2, r.mono s0 da⟩
  | own l => obtain ⟨q, us, e2, e3, r, m1, m2, m3⟩ := r1; obtain ⟨h1, h2, h3⟩ := hp q _ (fun _ z => by cases z) e3 m2 m3; exact ⟨q, us, e2, h1, r.mono s0 da, m1, h2, h3⟩
  | pin q l => obtain ⟨us, e2, e0, e3, r⟩ := r1; exact ⟨us, e2, e0, e3, r.mono s0 da⟩
  | obj q c fs => obtain ⟨C, dx, vf, e2, e3, m, cl, na, r, m1, m2, m3⟩ := r1; obtain ⟨h1, h2, h3⟩ := hp q _ (fun _ z => by cases z) e3 m2 m3; exact ⟨C, dx, vf, e2, h1, m, cl, na, r.mono s0 da, m1, h2, h3⟩
  | dic l => obtain ⟨q, us, e2, e3, r, m1, m2, m3⟩ := r1; obtain ⟨h1, h2, h3⟩ := hp q _ (fun _ z => by cases z) e3 m2 m3; exact ⟨q, us, e2, h1, r.mono s0 da, m1, h2, h3⟩
  | dit l => obtain ⟨q, us, e2, e3, r, m1, m2, m3⟩ := r1; obtain ⟨h1, h2, h3⟩ := hp q _ (fun _ z => by cases z) e3 m2 m3; exact ⟨q, us, e2, h1, r.mono s0 da, m1, h2, h3⟩
/-- what a def promises: by its meaning W -/
def spV (Γ : Gx) (W : WF1) : Sp := fun vs H Q _ => ∃ T ds P, T.H = H ∧ T.Ok ∧ RA Γ T.H0 T.Hd vs ds ∧ W ds P ∧ ∀ v T' d, T'.Ok → Ext Γ T T' → R Γ T'.H0 T'.Hd v d → P d → Q v T'.H
@[simp] def isO (ρ : Vn) : AI → Bool
  | .d _ => false
  | .sl i => match ρ.getD i .no with
    | .own _ => true
    | .pin _ _ => true
    | .dic _ => true
    | _ => false
@[simp] def wCall (W : WF1) (dd : List D) (w : WA) : WE := fun ρ Q => w ρ fun as ρ1 => rsN ρ1 as fun ds => W (ds ++ dd) fun d => (as.any (isO ρ1) = true → d.free = true) ∧ Q d ρ1
/-- addresses of one's own lists among the arguments -/
def Lent (σ : L2.St) (ρ : Vn) (as : List AI) (b : Addr) : Prop := ∃ i, AI.sl i ∈ as ∧ ((∃ l, ρ.getD i .no = .own l) ∨ (∃ q l, ρ.getD i .no = .pin q l) ∨ ∃ l, ρ.getD i .no = .dic l) ∧ σ[i]? = some (some (.ref b))
theorem Lent.at {as : List AI} {b : Addr} (S : Sv Γ T σ ρ) (h : Lent σ ρ as b) : ∃ o, T.H b = some o ∧ ((∃ vs, o = .lst vs) ∨ ∃ vs, o = .dK vs) ∧ T.H0 b = none ∧ T.Hd b = none := by
  obtain ⟨i, _, h, hs⟩ := h
  rcases h with ⟨l, e⟩ | ⟨q, l, e⟩ | ⟨l, e⟩
  · obtain ⟨s, e1, p, vs, e2, e3, r, n1, n2, n3⟩ := S.cell i _ (getD_of e (by simp))
    rw [hs] at e1; cases e1; cases e2
    exact ⟨_, e3, .inl ⟨vs, rfl⟩, n2, n3⟩
  · obtain ⟨s, e1, vs, e2, e0, e3, r⟩ := S.cell i _ (getD_of e (by simp))
    rw [hs] at e1; cases e1; cases e2
    exact ⟨_, S.ok.sF _ _ e3, .inl ⟨vs, rfl⟩, S.ok.F0 e3, S.ok.Fd e3⟩
  · obtain ⟨s, e1, p, vs, e2, e3, r, n1, n2, n3⟩ := S.cell i _ (getD_of e (by simp))
    rw [hs] at e1; cases e1; cases e2
    exact ⟨_, e3, .inr ⟨vs, rfl⟩, n2, n3⟩
open Classical in
noncomputable def lentH (T : Wo) (σ : L2.St) (ρ : Vn) (as : List AI) : Hp := fun b => if Lent σ ρ as b then T.H b else T.H0 b
open Classical in
theorem lentH_yes {as : List AI} {b : Addr} (h : Lent σ ρ as b) : lentH T σ ρ as b = T.H b := if_pos h
open Classical in
theorem lentH_no {as : List AI} {b : Addr} (h : ¬ Lent σ ρ as b) : lentH T σ ρ as b = T.H0 b := if_neg h
theorem lentH_same {as : List AI} (S : Sv Γ T σ ρ) : Same T.H0 (lentH T σ ρ as) := fun b x e => by
  by_cases h : Lent σ ρ as b
  · obtain ⟨vs, _, _, n, _⟩ := h.at S
    rw [n] at e; cases e
  · rw [lentH_no h]; exact e
theorem lent_args {as0 : List AI} (S : Sv Γ T σ ρ) : ∀ {vs : List V} {as : List AI} {k : List D → Prop}, (∀ a ∈ as, a ∈ as0) → ARs Γ T σ vs as → rsN ρ as k → ∃ ds, RA Γ (lentH T σ ρ as0) T.Hd vs ds ∧ k ds
  | _, _, _, _, .nil, h => ⟨[], .nil, h⟩
  | _, .d d :: as, _, hm, .cons a r, h => by
    obtain ⟨ds, r2, h⟩ := lent_args S (fun a h => hm a (List.mem_cons_of_mem _ h)) r h
    exact ⟨d :: ds, .cons (R.mono (lentH_same S) (fun _ h => h) a) r2, h⟩
  | v :: vs, .sl i :: as, _, hm, .cons a r, h => by
    have h : cRd (ρ.getD i .no) fun d => rsN ρ as fun ds => _ := h
    cases e : ρ.getD i .no with
    | val d =>
      rw [e] at h
      obtain ⟨s, e1, v', e2, rv⟩ := S.cell i _ (getD_of e (by simp))
      rw [show σ[i]? = some (some v) from a] at e1
      cases e1; cases e2
      obtain ⟨ds, r2, h⟩ := lent_args S (fun a h => hm a (List.mem_cons_of_mem _ h)) r h
      exact ⟨_, .cons (R.mono (lentH_same S) (fun _ h => h) rv) r2, h⟩
    | own l =>
      rw [e] at h
      obtain ⟨s, e1, p, us, e2, hp, rv, n⟩ := S.cell i _ (getD_of e (by simp))
      rw [show σ[i]? = some (some v) from a] at e1
      cases e1; cases e2
      obtain ⟨ds, r2, h⟩ := lent_args S (fun a h => hm a (List.mem_cons_of_mem _ h)) r h
      exact ⟨_, .cons (.lst (by rw [lentH_yes ⟨i, hm _ (List.mem_cons_self ..), .inl ⟨l, e⟩, a⟩]; exact hp) (rv.mono (lentH_same S) fun _ h => h)) r2, h⟩
    | pin q l =>
      rw [e] at h
      obtain ⟨s, e1, us, e2, e0, hp, rv⟩ := S.cell i _ (getD_of e (by simp))
      rw [show σ[i]? = some (some v) from a] at e1
      cases e1; cases e2
      obtain ⟨ds, r2, h⟩ := lent_args S (fun a h => hm a (List.mem_cons_of_mem _ h)) r h
      exact ⟨_, .cons (.lst (by rw [lentH_yes ⟨i, hm _ (List.mem_cons_self ..), .inr (.inl ⟨_, l, e⟩), a⟩]; exact S.ok.sF _ _ hp) (rv.mono (lentH_same S) fun _ h => h)) r2, h⟩
    | dic l =>
      rw [e] at h
      obtain ⟨s, e1, p, us, e2, hp, rv, n⟩ := S.cell i _ (getD_of e (by simp))
      rw [show σ[i]? = some (some v) from a] at e1
      cases e1; cases e2
      obtain ⟨ds, r2, h⟩ := lent_args S (fun a h => hm a (List.mem_cons_of_mem _ h)) r h
      exact ⟨_, .cons (.dct (by rw [lentH_yes ⟨i, hm _ (List.mem_cons_self ..), .inr (.inr ⟨l, e⟩), a⟩]; exact hp) (rv.mono (lentH_same S) fun _ h => h)) r2, h⟩
    | _ => rw [e] at h; exact h.elim
/-- a value without lists stands on what is no list -/
theorem free_sub {H0 H0' Hd : Hp} {L : Addr → Prop} (hL : ∀ b, L b → ∃ o, H0 b = some o ∧ ((∃ vs, o = .lst vs) ∨ ∃ vs, o = .dK vs)) (hn : ∀ b, ¬ L b → H0' b = H0 b) :
    (∀ {v : V} {d : D}, R Γ H0 Hd v d → d.free = true → R Γ H0' Hd v d) := by
  intro v d h
  refine R.rec (motive_1 := fun v d _ => d.free = true → R Γ H0' Hd v d) (motive_2 := fun vs l _ => D.freeL l = true → RA Γ H0' Hd vs l) (motive_3 := fun vs l _ => D.freeF l = true → RF Γ H0' Hd vs l) (motive_4 := fun vs l _ => True) ?_ ?_ ?_ ?_ ?_ ?_ ?_ ?_ ?_ ?_ ?_ ?_ ?_ ?_ ?_ ?_ ?_ h
  · exact fun _ => .non
  · exact fun b _ => .bl b
  · exact fun b _ => .int b
  · exact fun b _ => .str b
  · intro a vs l hs ra ih f
    exact .tup (by rw [hn a fun z => by obtain ⟨o, e, ⟨vs, rfl⟩ | ⟨vs, rfl⟩⟩ := hL a z <;> (rw [hs] at e; cases e)]; exact hs) (ih f)
  · intro a vs l hs ra ih f
    cases f
  · intro a C dx vf c df hs m cl na ra ih f
    exact .obj (by rw [hn a fun z => by obtain ⟨o, e, ⟨vs, rfl⟩ | ⟨vs, rfl⟩⟩ := hL a z <;> (rw [hs] at e; cases e)]; exact hs) m cl na (ih f)
  · exact fun h _ => .hnd h
  · intro a ns h f
    cases f
  · intro a vk dk hs ra ih f
    cases f
  · intro a ns c hs f
    cases f
  · exact fun _ => .nil
  · intro v d vs l h t ih1 ih2 f
    have f : (d.free && D.freeL l) = true := f
    rw [Bool.and_eq_true] at f
    exact .cons (ih1 f.1) (ih2 f.2)
  · exact fun _ => .nil
  · intro g v d vs l h t ih1 ih2 f
    have f : (d.free && D.freeF l) = true := f
    rw [Bool.and_eq_true] at f
    exact .cons (ih1 f.1) (ih2 f.2)
  · trivial
  · intros; trivial
/-- the outer part for a callee -/
def ntO : Option HO → Option HO
  | some (.tup _) => none
  | x => x
def frH (H0 Hd H : Hp) : Hp := fun b => match H0 b, Hd b with
  | none, none => ntO (H b)
  | _, _ => none
theorem ntO_yes {x : HO} (h : ∀ us, x ≠ .tup us) : ntO (some x) = some x := by
  cases x <;> first | rfl | exact absurd rfl (h _)
theorem ntO_some {y : Option HO} {x : HO} (h : ntO y = some x) : y = some x ∧ ∀ us, x ≠ .tup us := by
  cases y with
  | none => cases h
  | some z => cases z <;> first | cases h; done | (cases h; exact ⟨rfl, fun _ z => by cases z⟩)
theorem frH_yes {H0 Hd H : Hp} {b : Addr} {x : HO} (h : H0 b = none) (h' : Hd b = none) (hx : H b = some x) (ht : ∀ us, x ≠ .tup us) : frH H0 Hd H b = some x := by unfold frH; rw [h, h', hx]; exact ntO_yes ht
theorem frH_some' {H0 Hd H : Hp} {b : Addr} {x : HO} (h : frH H0 Hd H b = some x) : (H0 b = none ∧ Hd b = none ∧ H b = some x) ∧ ∀ us, x ≠ .tup us := by
  unfold frH at h
  cases e : H0 b with
  | some y => rw [e] at h; cases h
  | none =>
    cases e' : Hd b with
    | some y => rw [e, e'] at h; cases h
    | none => rw [e, e'] at h; exact ⟨⟨rfl, rfl, (ntO_some h).1⟩, (ntO_some h).2⟩
theorem frH_some {H0 Hd H : Hp} {b : Addr} {x : HO} (h : frH H0 Hd H b = some x) : H0 b = none ∧ Hd b = none ∧ H b = some x := (frH_some' h).1
theorem frH_nt {H0 Hd H : Hp} {b : Addr} {vs : List V} : frH H0 Hd H b ≠ some (.tup vs) := fun h => (frH_some' h).2 _ rfl
theorem Sv.call {as : List AI} {vs : List V} {dv : List V} {dd : List D} {W : WF1} {Q : D → Prop} {Q' : VK} {E : XK} (S : Sv Γ T σ ρ) (ha : ARs Γ T σ vs as) (hd : ∀ H0 Hd, RA Γ H0 Hd dv dd)
    (h : Vl.rsN ρ as fun ds => W (ds ++ dd) fun d => (as.any (isO ρ) = true → d.free = true) ∧ Q d) (q : ∀ v T' d, Sv Γ T' σ ρ → Ext Γ T T' → R Γ T'.H0 T'.Hd v d → Q d → Q' v T'.H) : spV Γ W (vs ++ dv) T.H Q' E := by
  obtain ⟨ds, ra, h⟩ := lent_args (as0 := as) S (fun _ h => h) ha h
  have hz : ∀ {b x}, lentH T σ ρ as b = some x → T.H b = some x ∧ T.Hd b = none := fun {b x} e => by
    by_cases hl : Lent σ ρ as b
    · rw [lentH_yes hl] at e; exact ⟨e, (hl.at S).choose_spec.2.2.2⟩
    · rw [lentH_no hl] at e; exact ⟨S.ok.s0 _ _ e, S.ok.zd e⟩
  refine ⟨⟨frH (lentH T σ ρ as) T.Hd T.H, lentH T σ ρ as, T.Hd, T.H, fun _ => False⟩, ds ++ dd, _, rfl, ⟨fun b x e => (frH_some e).2.2, fun b x e => (hz e).1, S.ok.sd, fun {b x} e => (frH_some e).1, fun {b x} e => (frH_some e).2.1, fun {b x} e => (hz e).2, frH_nt, S.ok.dt⟩, ra.app (hd _ _), h, ?_⟩
  intro v T' d ok e r hQ
  have sL : Same (lentH T σ ρ as) T'.H0 := e.s0
  have fF : ∀ {b x}, (∀ us, x ≠ .tup us) → T.H b = some x → T.H0 b = none → T.Hd b = none → ¬ Lent σ ρ as b → T'.F b = some x := fun {b x} nt e1 e2 e3 e4 => by
    rw [e.f]
    show frH (lentH T σ ρ as) T.Hd T.H b = some x
    exact frH_yes (by rw [lentH_no e4]; exact e2) e3 e1 nt
  have lL : ∀ {b}, Lent σ ρ as b → ∃ us, T.H b = some us ∧ ((∃ vs, us = .lst vs) ∨ ∃ vs, us = .dK vs) ∧ T.H0 b = none ∧ T.Hd b = none ∧ T'.H0 b = some us := fun {b} hl => by
    obtain ⟨us, h1, hk, h2, h3⟩ := hl.at S
    exact ⟨us, h1, hk, h2, h3, sL _ _ (by rw [lentH_yes hl]; exact h1)⟩
  let H0n : Hp := fun b => open Classical in if Lent σ ρ as b then T.H0 b else T'.H0 b
  have ny : ∀ {b}, Lent σ ρ as b → H0n b = none := fun {b} hl => by
    show (open Classical in if Lent σ ρ as b then T.H0 b else T'.H0 b) = none
    rw [if_pos hl]; exact (hl.at S).choose_spec.2.2.1
  have nn : ∀ {b}, ¬ Lent σ ρ as b → H0n b = T'.H0 b := fun {b} hl => by
    show (open Classical in if Lent σ ρ as b then T.H0 b else T'.H0 b) = _
    rw [if_neg hl]
  have Fout : ∀ {b x}, T.F b = some x → T'.H b = some x ∧ H0n b = none ∧ T'.Hd b = none := fun {b x} eF => by
    by_cases hl : Lent σ ρ as b
    · obtain ⟨us, h1, _, h2, h3, h4⟩ := lL hl
      have h5 := S.ok.sF _ _ eF
      rw [h1] at h5; cases h5
      exact ⟨ok.s0 _ _ h4, ny hl, ok.zd h4⟩
    · have h5 := fF (fun us z => S.ok.ft (z ▸ eF)) (S.ok.sF _ _ eF) (S.ok.F0 eF) (S.ok.Fd eF) hl
      exact ⟨ok.sF _ _ h5, by rw [nn hl]; exact ok.F0 h5, ok.Fd h5⟩
  have okn : Wo.Ok ⟨T.F, H0n, T'.Hd, T'.H, T.P⟩ := by
    refine ⟨fun b x e => (Fout e).1, fun b x e => ?_, ok.sd, fun {b x} e => (Fout e).2.1, fun {b x} e => (Fout e).2.2, fun {b x} e => ?_, S.ok.ft, ok.dt⟩
    · by_cases hl : Lent σ ρ as b
      · dsimp only at e; rw [ny hl] at e; cases e
      · dsimp only at e; rw [nn hl] at e; exact ok.s0 _ _ e
    · by_cases hl : Lent σ ρ as b
      · dsimp only at e; rw [ny hl] at e; cases e
      · dsimp only at e; rw [nn hl] at e; exact ok.zd e
  have s0n : Same T.H0 H0n := fun b x e => by
    by_cases hl : Lent σ ρ as b
    · rw [(hl.at S).choose_spec.2.2.1] at e; cases e
    · rw [nn hl]; exact sL _ _ (by rw [lentH_no hl]; exact e)
  have S' : Sv Γ ⟨T.F, H0n, T'.Hd, T'.H, T.P⟩ σ ρ := S.after okn s0n e.da fun p x nt h1 h2 h3 => by
    by_cases hl : Lent σ ρ as p
    · obtain ⟨us, k1, _, k2, k3, k4⟩ := lL hl
      rw [h1] at k1; cases k1
      exact ⟨ok.s0 _ _ k4, ny hl, ok.zd k4⟩
    · have h5 := fF nt h1 h2 h3 hl
      exact ⟨ok.sF _ _ h5, by rw [nn hl]; exact ok.F0 h5, ok.Fd h5⟩
  refine q v ⟨T.F, H0n, T'.Hd, T'.H, T.P⟩ d S' ⟨rfl, rfl, s0n, e.da⟩ ?_ hQ.2
  by_cases hany : as.any (isO ρ) = true
  · exact free_sub (L := Lent σ ρ as) (fun b hl => by obtain ⟨us, _, hk, _, _, h4⟩ := lL hl; exact ⟨us, h4, hk⟩) (fun b hl => nn hl) r (hQ.1 hany)
  · have z : H0n = T'.H0 := by
      funext b
      by_cases hl : Lent σ ρ as b
      · refine absurd ?_ hany
        obtain ⟨i, hm, ho, _⟩ := hl
        refine List.any_eq_true.mpr ⟨_, hm, ?_⟩
        rcases ho with ⟨l, e⟩ | ⟨q, l, e⟩ | ⟨l, e⟩
        · show (match ρ.getD i .no with | .own _ => true | .pin _ _ => true | .dic _ => true | _ => false) = true
          rw [e]
        · show (match ρ.getD i .no with | .own _ => true | .pin _ _ => true | .dic _ => true | _ => false) = true
          rw [e]
        · show (match ρ.getD i .no with | .own _ => true | .pin _ _ => true | .dic _ => true | _ => false) = true
          rw [e]
      · exact nn hl
    show R Γ H0n T'.Hd v d
    rw [z]; exact r
theorem spV_len {W : WF1} {n : Nat} {vs : List V} {H : Hp} {Q : VK} {E : XK} (hW : ∀ {ds P}, W ds P → ds.length = n) (h : spV Γ W vs H Q E) : vs.length = n := by
  obtain ⟨T, ds, P, rfl, ok, ra, hw, q⟩ := h
  rw [ra.len]; exact hW hw
/-- a def's meaning by its body's -/
@[simp] def wDef (n m : Nat) (b : WS) : WF1 := fun ds Q => ds.length = n ∧ b { nx := fun _ => Q .non, rt := Q } (ds.map Cell.val ++ List.replicate (m - n) .no)
theorem start_sv {N : List Str} {vs : List V} {ds : List D} (ok : T.Ok) (ra : RA Γ T.H0 T.Hd vs ds) : Sv Γ T (L2.start N vs) (ds.map Cell.val ++ List.replicate (N.length - ds.length) .no) := by
  have hat : ∀ {i : Nat} {c : Cell}, (ds.map Cell.val ++ List.replicate (N.length - ds.length) Cell.no)[i]? = some c → c = .no ∨ ∃ d, c = .val d ∧ ds[i]? = some d ∧ i < ds.length := fun {i c} e => by
    by_cases hi : i < ds.length
    · rw [List.getElem?_append_left (by simpa using hi), List.getElem?_map] at e
      cases z : ds[i]? with
      | none => rw [z] at e; cases e
      | some d => rw [z] at e; cases e; exact .inr ⟨d, rfl, rfl, hi⟩
    · rw [List.getElem?_append_right (by simpa using hi), List.getElem?_replicate] at e
      split at e
      · cases e; exact .inl rfl
      · cases e
  refine ⟨ok, by simp [L2.start, ra.len], fun i c e => ?_, fun i j p c c' e1 e2 p1 p2 _ _ => ?_⟩
  · have hl : i < (L2.start N vs).length := by
      obtain ⟨z, _⟩ := List.getElem?_eq_some_iff.mp e
      simp [L2.start, ra.len] at z ⊢
      exact z
    rcases hat e with rfl | ⟨d, rfl, hd, hi⟩
    · exact ⟨_, List.getElem?_eq_getElem hl, trivial⟩
    · obtain ⟨v, hv, r⟩ := ra.get hd
      refine ⟨some v, ?_, v, rfl, r⟩
      unfold L2.start
      rw [List.getElem?_append_left (by simpa [ra.len] using hi), List.getElem?_map, hv]
      rfl
  · rcases hat e1 with rfl | ⟨d, rfl, _⟩ <;> cases p1
theorem okV {N : List Str} {body : List Stmt} {t : TS} {b : WS} {vs : List V} {H : Hp} {Q : VK} {E : XK} {n m : Nat} (hN : N.length = m) (hb : VB Γ X body t b) (h : spV Γ (wDef n m b) vs H Q E) :
    ∃ t, PSs X body t ∧ t { nx := fun _ H' => Q .non H', rt := Q } (L2.start N vs) H := by
  obtain ⟨T, ds, P, rfl, ok, ra, ⟨hl, hw⟩, q⟩ := h
  subst hl hN
  exact ⟨t, hb.pe, hb.se.h (start_sv ok ra) hw (fun T' σ' ρ' S' e' h' => q .non T' .non S'.ok e' .non h') (fun T' v d ok' e' r' h' => q v T' d ok' e' r' h') (fun _ _ _ _ _ h => h.elim) (fun _ _ _ _ _ h => h.elim)⟩
variable {CX : CXT} {k : Nat} {f C : Addr} {fd : FuncData} {ps : List Str} {W : WF1} {E : XK} {x : Str} {p pos : Pos} {e : Expr} {es : List Expr} {t : TA} {w : WA} {dv : List V} {ds : List Value} {dd : List D}
theorem se_call (hd : ∀ H0 Hd, RA Γ H0 Hd dv dd) (ha : SA Γ t w) : SE Γ (tCall (spV Γ W) dv E t) (wCall W dd w) := ⟨fun {T σ ρ Q Q'} S hw q => ha.h S hw fun vs T1 as ρ1 S1 e1 r1 q1 =>
  S1.call r1 hd q1 fun v T2 d S2 e2 r2 q2 => q v T2 d ρ1 S2 (e1.trans e2) r2 q2⟩
theorem ve_call (F : FnOk X.prog X.w X.K X.mg X.base CX k f fd ps (spV Γ W)) (hr : Room k X.A) (hg : Gl X x) (hm : X.mg x = some (.ref f)) (hk : PySem.W.keepIn X.K (.ref f) = true) (hb : Binds X.K fd ps ds) (hdv : Vals dv ds) (hd : ∀ H0 Hd, RA Γ H0 Hd dv dd) (hx : Passes CX X E)
    (ha : VA Γ X (e :: es) t w) (hdb : (x == ("__debug__" : Str)) = false := by decide) (he : starEach (e :: es) X.env = (false, eval e X.env) :: starEach es X.env := by rfl) (hpl : (backTo pos (starEach es X.env)).any (·.1) = false := by rfl) :
    VE Γ X (.Call (.Name x p) (e :: es) [] pos) (tCall (spV Γ W) dv E t) (wCall W dd w) := ⟨pe_call F hr hg hm hk hb hdv hx ha.pe hdb he hpl, se_call hd ha.se⟩
end
end Vl

namespace Vl
open PySem PySem.Spec PyProof.Rows L2 Hl

/-! ### lists of ints, of bools -/
def D.intO : D → Option Int
  | .int i => some i
  | _ => none
def D.blO : D → Option Bool
  | .bl i => some i
  | _ => none
def intsO (l : List D) : Option (List Int) := l.mapM D.intO
def blsO (l : List D) : Option (List Bool) := l.mapM D.blO
theorem intsO_map (ns : List Int) : intsO (ns.map D.int) = some ns := by
  unfold intsO
  induction ns with
  | nil => rfl
  | cons n ns ih => simp [D.intO, ih]
theorem blsO_map (ns : List Bool) : blsO (ns.map D.bl) = some ns := by
  unfold blsO
  induction ns with
  | nil => rfl
  | cons n ns ih => simp [D.blO, ih]
theorem intsO_eq : ∀ {l : List D} {ns : List Int}, intsO l = some ns → l = ns.map D.int
  | [], ns, h => by cases h; rfl
  | d :: l, ns, h => by
    unfold intsO at h
    rw [List.mapM_cons] at h
    cases d <;> first | cases h | skip
    rename_i i
    cases e : l.mapM D.intO with
    | none => rw [e] at h; cases h
    | some m =>
      rw [e] at h
      cases h
      rw [List.map_cons, ← intsO_eq (l := l) e]
theorem blsO_eq : ∀ {l : List D} {ns : List Bool}, blsO l = some ns → l = ns.map D.bl
  | [], ns, h => by cases h; rfl
  | d :: l, ns, h => by
    unfold blsO at h
    rw [List.mapM_cons] at h
    cases d <;> first | cases h | skip
    rename_i i
    cases e : l.mapM D.blO with
    | none => rw [e] at h; cases h
    | some m =>
      rw [e] at h
      cases h
      rw [List.map_cons, ← blsO_eq (l := l) e]
theorem RA.ints {Γ : Gx} {H0 Hd : Hp} : ∀ {ns : List Int} {vs : List V}, RA Γ H0 Hd vs (ns.map D.int) → vs = ns.map V.int
  | [], _, h => by cases h; rfl
  | n :: ns, _, h => by
    cases h with
    | cons h t => cases h; rw [List.map_cons, ← RA.ints t]
theorem RA.bls {Γ : Gx} {H0 Hd : Hp} : ∀ {ns : List Bool} {vs : List V}, RA Γ H0 Hd vs (ns.map D.bl) → vs = ns.map V.bl
  | [], _, h => by cases h; rfl
  | n :: ns, _, h => by
    cases h with
    | cons h t => cases h; rw [List.map_cons, ← RA.bls t]
theorem ra_ints {Γ : Gx} {H0 Hd : Hp} : ∀ (ns : List Int), RA Γ H0 Hd (ns.map V.int) (ns.map D.int)
  | [] => .nil
  | n :: ns => .cons (.int n) (ra_ints ns)
/-! ### sorted ints -/
def insI (x : Int) : List Int → List Int
  | [] => [x]
  | y :: r => if x ≤ y then x :: y :: r else y :: insI x r
def sortI : List Int → List Int
  | [] => []
  | x :: r => insI x (sortI r)
theorem insI_perm (x : Int) : ∀ l, (insI x l).Perm (x :: l)
  | [] => .refl _
  | y :: r => by
    unfold insI
    split
    · exact .refl _
    · exact ((insI_perm x r).cons y).trans (.swap x y r)
theorem sortI_perm : ∀ l, (sortI l).Perm l
  | [] => .refl _
  | x :: r => (insI_perm x _).trans ((sortI_perm r).cons x)
theorem insI_sorted (x : Int) : ∀ l, l.Pairwise (· ≤ ·) → (insI x l).Pairwise (· ≤ ·)
  | [], _ => by simp [insI]
  | y :: r, h => by
    unfold insI
    rw [List.pairwise_cons] at h
    split
    · rename_i hxy
      refine List.pairwise_cons.mpr ⟨fun z hz => ?_, List.pairwise_cons.mpr h⟩
      rcases List.mem_cons.mp hz with rfl | hz
      · exact hxy
      · exact Int.le_trans hxy (h.1 z hz)
    · rename_i hxy
      refine List.pairwise_cons.mpr ⟨fun z hz => ?_, insI_sorted x r h.2⟩
      rcases List.mem_cons.mp ((insI_perm x r).mem_iff.mp hz) with rfl | hz
      · omega
      · exact h.1 z hz
theorem sortI_sorted : ∀ l, (sortI l).Pairwise (· ≤ ·)
  | [] => .nil
  | x :: r => insI_sorted x _ (sortI_sorted r)
theorem perm_sorted_eq : ∀ {l m : List Int}, l.Perm m → l.Pairwise (· ≤ ·) → m.Pairwise (· ≤ ·) → l = m
  | [], m, h, _, _ => h.nil_eq
  | x :: l, [], h, _, _ => absurd h.length_eq (by simp)
  | x :: l, y :: m, h, h1, h2 => by
    rw [List.pairwise_cons] at h1 h2
    have e : x = y := by
      have hx : x ∈ y :: m := h.mem_iff.mp (List.mem_cons_self ..)
      have hy : y ∈ x :: l := h.mem_iff.mpr (List.mem_cons_self ..)
      rcases List.mem_cons.mp hx with e | hx
      · exact e
      · rcases List.mem_cons.mp hy with e | hy
        · exact e.symm
        · exact Int.le_antisymm (h1.1 y hy) (h2.1 x hx)
    subst e
    rw [perm_sorted_eq (List.Perm.cons_inv h) h1.2 h2.2]
/-! ### the built-in functions by values -/
@[simp] def gLen : GN
  | [.lst l], k => k (.int l.length)
  | [.tup l], k => k (.int l.length)
  | [.str z], k => z.length ≤ sizeLine ∧ k (.int z.length)
  | _, _ => False
@[simp] def gTuple : GN
  | [.lst l], k => k (.tup l)
  | [.tup l], k => k (.tup l)
  | _, _ => False
@[simp] def fList : FN
  | [.lst l], k => k l
  | [.tup l], k => k l
  | _, _ => False
@[simp] def gInt : GN
  | [.int i], k => k (.int i)
  | [.bl b], k => k (.int (if b then 1 else 0))
  | _, _ => False
@[simp] def gBool : GN
  | [.int i], k => k (.bl (i != 0))
  | [.bl b], k => k (.bl b)
  | _, _ => False
@[simp] def gAbs : GN
  | [.int i], k => k (.int i.natAbs)
  | _, _ => False
@[simp] def gSum : GN
  | [.lst l], k => oK (intsO l) fun ns => k (.int ns.sum)
  | _, _ => False
def maxI : List Int → Int
  | [] => 0
  | n :: ns => ns.foldl max n
def minI : List Int → Int
  | [] => 0
  | n :: ns => ns.foldl min n
@[simp] def gMax : GN
  | [.int i, .int j], k => k (.int (max i j))
  | [.int i, .int j, .int l], k => k (.int (max (max i j) l))
  | [.lst l], k => oK (intsO l) fun ns => 0 < ns.length ∧ k (.int (maxI ns))
  | [.tup l], k => oK (intsO l) fun ns => 0 < ns.length ∧ k (.int (maxI ns))
  | _, _ => False
@[simp] def gMin : GN
  | [.int i, .int j], k => k (.int (min i j))
  | [.int i, .int j, .int l], k => k (.int (min (min i j) l))
  | [.lst l], k => oK (intsO l) fun ns => 0 < ns.length ∧ k (.int (minI ns))
  | [.tup l], k => oK (intsO l) fun ns => 0 < ns.length ∧ k (.int (minI ns))
  | _, _ => False
theorem foldl_max : ∀ (ns : List Int) (n : Int), (ns.foldl max n = n ∨ ns.foldl max n ∈ ns) ∧ n ≤ ns.foldl max n ∧ ∀ y ∈ ns, y ≤ ns.foldl max n
  | [], n => ⟨.inl rfl, Int.le_refl _, fun _ h => by simp at h⟩
  | m :: ns, n => by
    obtain ⟨h1, h2, h3⟩ := foldl_max ns (max n m)
    rw [List.foldl_cons]
    refine ⟨?_, by omega, fun y hy => ?_⟩
    · rcases h1 with h1 | h1
      · rw [h1]
        by_cases z : m ≤ n
        · exact .inl (by omega)
        · exact .inr (by rw [show max n m = m by omega]; simp)
      · exact .inr (List.mem_cons_of_mem _ h1)
    · rcases List.mem_cons.mp hy with rfl | hy
      · omega
      · exact h3 y hy
theorem foldl_min : ∀ (ns : List Int) (n : Int), (ns.foldl min n = n ∨ ns.foldl min n ∈ ns) ∧ ns.foldl min n ≤ n ∧ ∀ y ∈ ns, ns.foldl min n ≤ y
  | [], n => ⟨.inl rfl, Int.le_refl _, fun _ h => by simp at h⟩
  | m :: ns, n => by
    obtain ⟨h1, h2, h3⟩ := foldl_min ns (min n m)
    rw [List.foldl_cons]
    refine ⟨?_, by omega, fun y hy => ?_⟩
    · rcases h1 with h1 | h1
      · rw [h1]
        by_cases z : n ≤ m
        · exact .inl (by omega)
        · exact .inr (by rw [show min n m = m by omega]; simp)
      · exact .inr (List.mem_cons_of_mem _ h1)
    · rcases List.mem_cons.mp hy with rfl | hy
      · omega
      · exact h3 y hy
theorem maxI_mem {ns : List Int} (h : 0 < ns.length) : maxI ns ∈ ns ∧ ∀ y ∈ ns, y ≤ maxI ns := by
  cases ns with
  | nil => simp at h
  | cons n ns =>
    obtain ⟨h1, h2, h3⟩ := foldl_max ns n
    refine ⟨?_, fun y hy => ?_⟩
    · rcases h1 with h1 | h1
      · exact List.mem_cons.mpr (.inl h1)
      · exact List.mem_cons_of_mem _ h1
    · rcases List.mem_cons.mp hy with rfl | hy
      · exact h2
      · exact h3 y hy
theorem minI_mem {ns : List Int} (h : 0 < ns.length) : minI ns ∈ ns ∧ ∀ y ∈ ns, minI ns ≤ y := by
  cases ns with
  | nil => simp at h
  | cons n ns =>
    obtain ⟨h1, h2, h3⟩ := foldl_min ns n
    refine ⟨?_, fun y hy => ?_⟩
    · rcases h1 with h1 | h1
      · exact List.mem_cons.mpr (.inl h1)
      · exact List.mem_cons_of_mem _ h1
    · rcases List.mem_cons.mp hy with rfl | hy
      · exact h2
      · exact h3 y hy
theorem maxI_is {ns : List Int} {m : Int} (h : m ∈ ns) (h' : ∀ y ∈ ns, y ≤ m) : m = maxI ns := by
  obtain ⟨h1, h2⟩ := maxI_mem (List.length_pos_of_mem h)
  exact Int.le_antisymm (h2 m h) (h' _ h1)
theorem minI_is {ns : List Int} {m : Int} (h : m ∈ ns) (h' : ∀ y ∈ ns, m ≤ y) : m = minI ns := by
  obtain ⟨h1, h2⟩ := minI_mem (List.length_pos_of_mem h)
  exact Int.le_antisymm (h' _ h1) (h2 m h)
@[simp] def gAll : GN
  | [.lst l], k => oK (blsO l) fun bs => k (.bl (bs.all id))
  | _, _ => False
@[simp] def gAny : GN
  | [.lst l], k => oK (blsO l) fun bs => k (.bl (bs.any id))
  | _, _ => False
@[simp] def fSorted : FN
  | [.lst l], k => oK (intsO l) fun ns => k ((sortI ns).map D.int)
  | [.tup l], k => oK (intsO l) fun ns => k ((sortI ns).map D.int)
  | _, _ => False
section
variable {Γ : Gx} {T : Wo}
abbrev rLenP (K : PySem.W.Frag) : List V → Hp → VK → Prop := fun xs H Q => (∃ p ys, xs = [.ref p] ∧ (SqL K H p ys ∨ SqT K H p ys) ∧ Q (.int ys.length) H) ∨ (∃ z, xs = [.str z] ∧ z.length ≤ sizeLine ∧ Q (.int z.length) H)
theorem cr_lenP {X : Cx} {K : PySem.W.Frag} (h : X.K = K) : CallR X (.builtin "len") (rLenP K) := by subst h; exact cr_or call_len_seq call_len_str
theorem cs_len : CS Γ (rLenP Γ.K) gLen := ⟨fun {T xs as Q Q'} ok r h q => by
  unfold gLen at h
  split at h
  · obtain ⟨v, rfl, r'⟩ := r.one
    obtain ⟨p, vs, rfl, hp, rp⟩ := r'.lst ok
    refine .inl ⟨p, vs, rfl, .inl (SqL.of hp), ?_⟩
    rw [rp.len]; exact gr_sc ok q (.int _) h
  · obtain ⟨v, rfl, r'⟩ := r.one
    obtain ⟨p, vs, rfl, hp, rp⟩ := r'.tup ok
    refine .inl ⟨p, vs, rfl, .inr hp, ?_⟩
    rw [rp.len]; exact gr_sc ok q (.int _) h
  · obtain ⟨v, rfl, r'⟩ := r.one
    cases r'.str
    exact .inr ⟨_, rfl, h.1, gr_sc ok q (.int _) h.2⟩
  · exact h.elim⟩
abbrev rTupleP (K : PySem.W.Frag) : List V → Hp → VK → Prop := fun xs H Q => ∃ p ys, xs = [.ref p] ∧ ((SqL K H p ys ∧ ∀ l, H l = none → Q (.ref l) (upd H l (.tup ys))) ∨ (SqT K H p ys ∧ Q (.ref p) H))
theorem cs_tuple : CS Γ (rTupleP Γ.K) gTuple := ⟨fun {T xs as Q Q'} ok r h q => by
  unfold gTuple at h
  split at h
  · obtain ⟨v, rfl, r'⟩ := r.one
    obtain ⟨p, vs, rfl, hp, rp⟩ := r'.lst ok
    exact ⟨p, vs, rfl, .inl ⟨SqL.of hp, fun l n => gr_new ok q n (r_tup ok n rp) h⟩⟩
  · obtain ⟨v, rfl, r'⟩ := r.one
    obtain ⟨p, vs, rfl, hp, rp⟩ := r'.tup ok
    refine ⟨p, vs, rfl, .inr ⟨hp, ?_⟩⟩
    cases r' with
    | sh r => exact gr_sc ok q r h
  · exact h.elim⟩
abbrev rListP (K : PySem.W.Frag) : List V → Hp → VK → Prop := fun xs H Q => ∃ p ys, xs = [.ref p] ∧ (SqL K H p ys ∨ SqT K H p ys) ∧ ∀ l, H l = none → Q (.ref l) (upd H l (.lst ys))
theorem csf_list : CSF Γ (rListP Γ.K) fList := ⟨fun {T xs as Q Q'} ok r h q => by
  unfold fList at h
  split at h
  · obtain ⟨v, rfl, r'⟩ := r.one
    obtain ⟨p, vs, rfl, hp, rp⟩ := r'.lst ok
    exact ⟨p, vs, rfl, .inl (SqL.of hp), fun l n => q l _ _ n rp h⟩
  · obtain ⟨v, rfl, r'⟩ := r.one
    obtain ⟨p, vs, rfl, hp, rp⟩ := r'.tup ok
    exact ⟨p, vs, rfl, .inr hp, fun l n => q l _ _ n rp h⟩
  · exact h.elim⟩
abbrev rInt1 : List V → Hp → VK → Prop := fun xs H Q => (∃ i, xs = [.int i] ∧ Q (.int i) H) ∨ ∃ k, xs = [.bl k] ∧ Q (.int (if k then 1 else 0)) H
abbrev rBool1 : List V → Hp → VK → Prop := fun xs H Q => (∃ i, xs = [.int i] ∧ Q (.bl (i != 0)) H) ∨ ∃ k, xs = [.bl k] ∧ Q (.bl k) H
theorem cs_int : CS Γ rInt1 gInt := ⟨fun {T xs as Q Q'} ok r h q => by
  unfold gInt at h
  split at h
  · obtain ⟨v, rfl, r'⟩ := r.one
    cases r'.int
    exact .inl ⟨_, rfl, gr_sc ok q (.int _) h⟩
  · obtain ⟨v, rfl, r'⟩ := r.one
    cases r'.bl
    exact .inr ⟨_, rfl, gr_sc ok q (.int _) h⟩
  · exact h.elim⟩
theorem cs_bool : CS Γ rBool1 gBool := ⟨fun {T xs as Q Q'} ok r h q => by
  unfold gBool at h
  split at h
  · obtain ⟨v, rfl, r'⟩ := r.one
    cases r'.int
    exact .inl ⟨_, rfl, gr_sc ok q (.bl _) h⟩
  · obtain ⟨v, rfl, r'⟩ := r.one
    cases r'.bl
    exact .inr ⟨_, rfl, gr_sc ok q (.bl _) h⟩
  · exact h.elim⟩
theorem cs_abs : CS Γ (fun xs H Q => ∃ i, xs = [.int i] ∧ Q (.int (if i < 0 then -i else i)) H) gAbs := ⟨fun {T xs as Q Q'} ok r h q => by
  unfold gAbs at h
  split at h
  · obtain ⟨v, rfl, r'⟩ := r.one
    cases r'.int
    rename_i k i
    refine ⟨_, rfl, ?_⟩
    rw [show (if i < 0 then -i else i) = (i.natAbs : Int) by split <;> omega]
    exact gr_sc ok q (.int _) h
  · exact h.elim⟩
theorem cs_sum : CS Γ (rSum Γ.K) gSum := ⟨fun {T xs as Q Q'} ok r h q => by
  unfold gSum at h
  split at h
  · obtain ⟨v, rfl, r'⟩ := r.one
    obtain ⟨ns, e, h'⟩ := oK_of h
    replace h := h'
    clear h'
    cases intsO_eq e
    obtain ⟨p, vs, rfl, hp, rp⟩ := r'.lst ok
    cases rp.ints
    exact ⟨p, ns, rfl, SqL.of hp, gr_sc ok q (.int _) h⟩
  · exact h.elim⟩
theorem cs_all : CS Γ (rAll Γ.K) gAll := ⟨fun {T xs as Q Q'} ok r h q => by
  unfold gAll at h
  split at h
  · obtain ⟨v, rfl, r'⟩ := r.one
    obtain ⟨ns, e, h'⟩ := oK_of h
    replace h := h'
    clear h'
    cases blsO_eq e
    obtain ⟨p, vs, rfl, hp, rp⟩ := r'.lst ok
    cases rp.bls
    exact ⟨p, ns, rfl, SqL.of hp, gr_sc ok q (.bl _) h⟩
  · exact h.elim⟩
theorem cs_any : CS Γ (rAny Γ.K) gAny := ⟨fun {T xs as Q Q'} ok r h q => by
  unfold gAny at h
  split at h
  · obtain ⟨v, rfl, r'⟩ := r.one
    obtain ⟨ns, e, h'⟩ := oK_of h
    replace h := h'
    clear h'
    cases blsO_eq e
    obtain ⟨p, vs, rfl, hp, rp⟩ := r'.lst ok
    cases rp.bls
    exact ⟨p, ns, rfl, SqL.of hp, gr_sc ok q (.bl _) h⟩
  · exact h.elim⟩
abbrev rMaxP (K : PySem.W.Frag) : List V → Hp → VK → Prop := fun xs H Q => (∃ i j, xs = [.int i, .int j] ∧ Q (.int (if j > i then j else i)) H) ∨ (rMax3 xs H Q ∨ (rMax K xs H Q ∨ rMaxT K xs H Q))
abbrev rMinP (K : PySem.W.Frag) : List V → Hp → VK → Prop := fun xs H Q => (∃ i j, xs = [.int i, .int j] ∧ Q (.int (if j < i then j else i)) H) ∨ (rMin3 xs H Q ∨ (rMin K xs H Q ∨ rMinT K xs H Q))
theorem cr_maxP {X : Cx} {K : PySem.W.Frag} (h : X.K = K) (hc : X.calm = true) (hu : X.A.units + 65 < cLine) : CallR X (.builtin "max") (rMaxP K) := by subst h; exact cr_or (call_max2 hc) (cr_or (call_max3I hc) (cr_or (cr_max hc) (cr_maxT hc hu)))
theorem cr_minP {X : Cx} {K : PySem.W.Frag} (h : X.K = K) (hc : X.calm = true) (hu : X.A.units + 65 < cLine) : CallR X (.builtin "min") (rMinP K) := by subst h; exact cr_or (call_min2 hc) (cr_or (call_min3I hc) (cr_or (cr_min hc) (cr_minT hc hu)))
theorem cs_max : CS Γ (rMaxP Γ.K) gMax := ⟨fun {T xs as Q Q'} ok r h q => by
  unfold gMax at h
  split at h
  · rename_i k i j
    obtain ⟨v, u, rfl, r1, r2⟩ := r.two
    cases r1.int; cases r2.int
    refine .inl ⟨_, _, rfl, ?_⟩
    rw [show (if j > i then j else i) = max i j by split <;> omega]
    exact gr_sc ok q (.int _) h
  · rename_i k i j l
    obtain ⟨v, u, w, rfl, r1, r2, r3⟩ := r.three
    cases r1.int; cases r2.int; cases r3.int
    refine .inr (.inl ⟨_, _, _, rfl, ?_⟩)
    rw [show (if l > (if j > i then j else i) then l else (if j > i then j else i)) = max (max i j) l by split <;> split <;> omega]
    exact gr_sc ok q (.int _) h
  · obtain ⟨v, rfl, r'⟩ := r.one
    obtain ⟨ns, e, hn, h'⟩ := oK_of h
    replace h := h'
    clear h'
    cases intsO_eq e
    obtain ⟨p, vs, rfl, hp, rp⟩ := r'.lst ok
    cases rp.ints
    refine .inr (.inr (.inl ⟨p, ns, rfl, SqL.of hp, hn, fun m h1 h2 => ?_⟩))
    rw [maxI_is h1 h2]
    exact gr_sc ok q (.int _) h
  · obtain ⟨v, rfl, r'⟩ := r.one
    obtain ⟨ns, e, hn, h'⟩ := oK_of h
    replace h := h'
    clear h'
    cases intsO_eq e
    obtain ⟨p, vs, rfl, hp, rp⟩ := r'.tup ok
    cases rp.ints
    cases ns with
    | nil => simp at hn
    | cons n ns => exact .inr (.inr (.inr ⟨p, n, ns, rfl, hp, gr_sc ok q (.int _) h⟩))
  · exact h.elim⟩
theorem cs_min : CS Γ (rMinP Γ.K) gMin := ⟨fun {T xs as Q Q'} ok r h q => by
  unfold gMin at h
  split at h
  · rename_i k i j
    obtain ⟨v, u, rfl, r1, r2⟩ := r.two
    cases r1.int; cases r2.int
    refine .inl ⟨_, _, rfl, ?_⟩
    rw [show (if j < i then j else i) = min i j by split <;> omega]
    exact gr_sc ok q (.int _) h
  · rename_i k i j l
    obtain ⟨v, u, w, rfl, r1, r2, r3⟩ := r.three
    cases r1.int; cases r2.int; cases r3.int
    refine .inr (.inl ⟨_, _, _, rfl, ?_⟩)
    rw [show (if l < (if j < i then j else i) then l else (if j < i then j else i)) = min (min i j) l by split <;> split <;> omega]
    exact gr_sc ok q (.int _) h
  · obtain ⟨v, rfl, r'⟩ := r.one
    obtain ⟨ns, e, hn, h'⟩ := oK_of h
    replace h := h'
    clear h'
    cases intsO_eq e
    obtain ⟨p, vs, rfl, hp, rp⟩ := r'.lst ok
    cases rp.ints
    refine .inr (.inr (.inl ⟨p, ns, rfl, SqL.of hp, hn, fun m h1 h2 => ?_⟩))
    rw [minI_is h1 h2]
    exact gr_sc ok q (.int _) h
  · obtain ⟨v, rfl, r'⟩ := r.one
    obtain ⟨ns, e, hn, h'⟩ := oK_of h
    replace h := h'
    clear h'
    cases intsO_eq e
    obtain ⟨p, vs, rfl, hp, rp⟩ := r'.tup ok
    cases rp.ints
    cases ns with
    | nil => simp at hn
    | cons n ns => exact .inr (.inr (.inr ⟨p, n, ns, rfl, hp, gr_sc ok q (.int _) h⟩))
  · exact h.elim⟩
abbrev rSortedP2 (K : PySem.W.Frag) : List V → Hp → VK → Prop := fun xs H Q => rSortedI K xs H Q ∨ rSortedTI K xs H Q
theorem cr_sortedP2 {X : Cx} {K : PySem.W.Frag} (h : X.K = K) : CallR X (.builtin "sorted") (rSortedP2 K) := by subst h; exact cr_or cr_sortedI cr_sortedTI
theorem csf_sorted : CSF Γ (rSortedP2 Γ.K) fSorted := ⟨fun {T xs as Q Q'} ok r h q => by
  unfold fSorted at h
  split at h
  · obtain ⟨v, rfl, r'⟩ := r.one
    obtain ⟨ns, e, h'⟩ := oK_of h
    replace h := h'
    clear h'
    cases intsO_eq e
    obtain ⟨p, vs, rfl, hp, rp⟩ := r'.lst ok
    cases rp.ints
    refine .inl ⟨p, ns, rfl, SqL.of hp, fun ns' a h1 h2 n => ?_⟩
    rw [perm_sorted_eq (h1.trans (sortI_perm ns).symm) h2 (sortI_sorted ns)]
    exact q a _ _ n (ra_ints _) h
  · obtain ⟨v, rfl, r'⟩ := r.one
    obtain ⟨ns, e, h'⟩ := oK_of h
    replace h := h'
    clear h'
    cases intsO_eq e
    obtain ⟨p, vs, rfl, hp, rp⟩ := r'.tup ok
    cases rp.ints
    refine .inr ⟨p, ns, rfl, hp, fun ns' a h1 h2 n => ?_⟩
    rw [perm_sorted_eq (h1.trans (sortI_perm ns).symm) h2 (sortI_sorted ns)]
    exact q a _ _ n (ra_ints _) h
  · exact h.elim⟩
/-! ### * -/
abbrev rMulP (K : PySem.W.Frag) : R2 := fun x y H Q => rI CMulW (fun i j => .int (i * j)) x y H Q ∨ (rRep x y H Q ∨ rRepT K x y H Q)
theorem op_mulP {X : Cx} {K : PySem.W.Frag} (h : X.K = K) : OpR X (binaryOp .Mult) (rMulP K) := by subst h; exact opr_or op_mulW (opr_or op_rep op_repT)
def repD (l : List D) (k : Nat) : List D := (List.replicate k l).flatten
theorem RA.rep {H0 Hd : Hp} {vs : List V} {l : List D} (h : RA Γ H0 Hd vs l) : ∀ k, RA Γ H0 Hd (List.replicate k vs).flatten (List.replicate k l).flatten
  | 0 => .nil
  | k + 1 => by
    rw [List.replicate_succ, List.replicate_succ, List.flatten_cons, List.flatten_cons]
    exact h.app (RA.rep h k)
@[simp] def gMul : G2
  | .int i, .int j, k => CMulW i j ∧ k (.int (i * j))
  | .lst l, .int j, k => (-(2 ^ 63) ≤ j ∧ j < 2 ^ 63 ∧ l.length * j.toNat ≤ sizeLine) ∧ k (.lst (repD l j.toNat))
  | .tup l, .int j, k => (l ≠ [] ∧ 2 ≤ j ∧ j ≤ 1000 ∧ l.length ≤ 1000) ∧ k (.tup (repD l j.toNat))
  | _, _, _ => False
@[simp] def fRep : F2
  | .lst l, .int j, k => (-(2 ^ 63) ≤ j ∧ j < 2 ^ 63 ∧ l.length * j.toNat ≤ sizeLine) ∧ k (repD l j.toNat)
  | _, _, _ => False
theorem os_mul : OS Γ (rMulP Γ.K) gMul := ⟨fun {T x y a b Q Q'} ok rx ry h q => by
  cases a <;> cases b <;> first | exact h.elim | skip
  · cases rx.int; cases ry.int
    exact .inl ⟨_, _, rfl, rfl, h.1, gr_sc ok q (.int _) h.2⟩
  · obtain ⟨p, vs, rfl, hp, rp⟩ := rx.tup ok
    cases ry.int
    obtain ⟨⟨h1, h2, h3, h4⟩, h⟩ := h
    refine .inr (.inr ⟨p, _, vs, rfl, rfl, hp, fun z => h1 ?_, h2, h3, by rw [rp.len]; exact h4, fun a n => gr_new ok q n (r_tup ok n (rp.rep _)) h⟩)
    subst z; cases rp; rfl
  · obtain ⟨p, vs, rfl, hp, rp⟩ := rx.lst ok
    cases ry.int
    obtain ⟨⟨h1, h2, h3⟩, h⟩ := h
    exact .inr (.inl ⟨p, _, vs, rfl, rfl, hp, h1, h2, by rw [rp.len]; exact h3, fun a n => gr_new ok q n (r_lst ok n (rp.rep _)) h⟩)⟩
theorem osf_rep : OSF Γ rRep fRep := ⟨fun {T x y a b Q Q'} ok rx ry h q => by
  cases a <;> cases b <;> first | exact h.elim | skip
  obtain ⟨p, vs, rfl, hp, rp⟩ := rx.lst ok
  cases ry.int
  obtain ⟨⟨h1, h2, h3⟩, h⟩ := h
  exact ⟨p, _, vs, rfl, rfl, hp, h1, h2, by rw [rp.len]; exact h3, fun a n => q a _ _ n (rp.rep _) h⟩⟩
/-! ### isinstance -/
inductive Tn where
  | int | bool | str | tuple | list
def Tn.nm : Tn → String
  | .int => "int" | .bool => "bool" | .str => "str" | .tuple => "tuple" | .list => "list"
@[simp] def D.isTy : Tn → D → Bool
  | .bool, .bl _ => true
  | .int, .bl _ => true
  | .int, .int _ => true
  | .str, .str _ => true
  | .tuple, .tup _ => true
  | .list, .lst _ => true
  | _, _ => false
inductive TyN : D → String → Prop
  | non : TyN .non "NoneType"
  | bl (b) : TyN (.bl b) "bool"
  | int (b) : TyN (.int b) "int"
  | str (b) : TyN (.str b) "str"
  | tup (b) : TyN (.tup b) "tuple"
  | lst (b) : TyN (.lst b) "list"
theorem kt_NoneType_int : kitB "NoneType" "int" = some false := by decide +kernel
theorem kt_NoneType_bool : kitB "NoneType" "bool" = some false := by decide +kernel
theorem kt_NoneType_str : kitB "NoneType" "str" = some false := by decide +kernel
theorem kt_NoneType_tuple : kitB "NoneType" "tuple" = some false := by decide +kernel
theorem kt_NoneType_list : kitB "NoneType" "list" = some false := by decide +kernel
theorem kt_bool_int : kitB "bool" "int" = some true := by decide +kernel
theorem kt_bool_bool : kitB "bool" "bool" = some true := by decide +kernel
theorem kt_bool_str : kitB "bool" "str" = some false := by decide +kernel
theorem kt_bool_tuple : kitB "bool" "tuple" = some false := by decide +kernel
theorem kt_bool_list : kitB "bool" "list" = some false := by decide +kernel
theorem kt_int_int : kitB "int" "int" = some true := by decide +kernel
theorem kt_int_bool : kitB "int" "bool" = some false := by decide +kernel
theorem kt_int_str : kitB "int" "str" = some false := by decide +kernel
theorem kt_int_tuple : kitB "int" "tuple" = some false := by decide +kernel
theorem kt_int_list : kitB "int" "list" = some false := by decide +kernel
theorem kt_str_int : kitB "str" "int" = some false := by decide +kernel
theorem kt_str_bool : kitB "str" "bool" = some false := by decide +kernel
theorem kt_str_str : kitB "str" "str" = some true := by decide +kernel
theorem kt_str_tuple : kitB "str" "tuple" = some false := by decide +kernel
theorem kt_str_list : kitB "str" "list" = some false := by decide +kernel
theorem kt_tuple_int : kitB "tuple" "int" = some false := by decide +kernel
theorem kt_tuple_bool : kitB "tuple" "bool" = some false := by decide +kernel
theorem kt_tuple_str : kitB "tuple" "str" = some false := by decide +kernel
theorem kt_tuple_tuple : kitB "tuple" "tuple" = some true := by decide +kernel
theorem kt_tuple_list : kitB "tuple" "list" = some false := by decide +kernel
theorem kt_list_int : kitB "list" "int" = some false := by decide +kernel
theorem kt_list_bool : kitB "list" "bool" = some false := by decide +kernel
theorem kt_list_str : kitB "list" "str" = some false := by decide +kernel
theorem kt_list_tuple : kitB "list" "tuple" = some false := by decide +kernel
theorem kt_list_list : kitB "list" "list" = some true := by decide +kernel
theorem kit_tab {d : D} {S : String} {U : Tn} (h : TyN d S) : kitB S U.nm = some (d.isTy U) := by
  cases h with
  | non =>
    cases U with
    | int => exact kt_NoneType_int
    | bool => exact kt_NoneType_bool
    | str => exact kt_NoneType_str
    | tuple => exact kt_NoneType_tuple
    | list => exact kt_NoneType_list
  | bl b =>
    cases U with
    | int => exact kt_bool_int
    | bool => exact kt_bool_bool
    | str => exact kt_bool_str
    | tuple => exact kt_bool_tuple
    | list => exact kt_bool_list
  | int b =>
    cases U with
    | int => exact kt_int_int
    | bool => exact kt_int_bool
    | str => exact kt_int_str
    | tuple => exact kt_int_tuple
    | list => exact kt_int_list
  | str b =>
    cases U with
    | int => exact kt_str_int
    | bool => exact kt_str_bool
    | str => exact kt_str_str
    | tuple => exact kt_str_tuple
    | list => exact kt_str_list
  | tup b =>
    cases U with
    | int => exact kt_tuple_int
    | bool => exact kt_tuple_bool
    | str => exact kt_tuple_str
    | tuple => exact kt_tuple_tuple
    | list => exact kt_tuple_list
  | lst b =>
    cases U with
    | int => exact kt_list_int
    | bool => exact kt_list_bool
    | str => exact kt_list_str
    | tuple => exact kt_list_tuple
    | list => exact kt_list_list
@[simp] def D.tyN : D → Bool
  | .obj _ _ => false
  | .hnd => false
  | .scr _ => false
  | .dct _ => false
  | .set _ => false
  | _ => true
theorem ro_ty {v : V} {d : D} (ok : T.Ok) (r : RO Γ T v d) (h : d.tyN = true) : ∃ S, TyN d S ∧ TyX Γ.K T.H v (.type S) := by
  cases d <;> first | cases h | skip
  · cases r.non; exact ⟨_, .non, .base .non⟩
  · cases r.bl; exact ⟨_, .bl _, .base (.bl _)⟩
  · cases r.int; exact ⟨_, .int _, .base (.int _)⟩
  · cases r.str; exact ⟨_, .str _, .base (.str _)⟩
  · obtain ⟨p, vs, rfl, hp, _⟩ := r.tup ok; exact ⟨_, .tup _, ty_tup hp⟩
  · obtain ⟨p, vs, rfl, hp, _⟩ := r.lst ok; exact ⟨_, .lst _, ty_lst (SqL.of hp)⟩
/-- isinstance(x, T), T a built-in class that is written -/
@[simp] def wIsi (U : Tn) (w : WO) : WE := fun ρ Q => w ρ fun a ρ1 => rs1 ρ1 a fun d => d.tyN = true ∧ Q (.bl (d.isTy U)) ρ1
end
section
variable {Γ : Gx} {X : Cx} {e : Expr} {te : TE} {we : WO} {x : Str} {p pos : Pos} {e2 : Expr} {U : Tn}
theorem ve_isi (hK : X.K = Γ.K) (h : VO Γ X e te we) (h2 : PE X e2 (tC (.ty U.nm))) (hg : Gl X "isinstance") (hm : X.mg "isinstance" = none)
    (he : starEach (e :: [e2]) X.env = (false, eval e X.env) :: starEach [e2] X.env := by rfl) (he2 : starEach [e2] X.env = (false, eval e2 X.env) :: starEach [] X.env := by rfl) (hpl : (backTo pos (starEach [e2] X.env)).any (·.1) = false := by rfl) :
    VE Γ X (.Call (.Name "isinstance" p) [e, e2] [] pos) (tCB (RIs Γ.K) (tCons te (tCons (tC (.ty U.nm)) tNil))) (wIsi U we) :=
  ⟨pe_callB (kcall_isiS hK) hg hm (by decide +kernel) (pa_cons h.pe (pa_cons h2 pa_nil he2) he) (by decide) (by decide) he hpl, ⟨fun {T σ ρ Q Q'} S hw q => h.se.h S hw fun v T1 a ρ1 S1 e1 r1 q1 => by
    obtain ⟨d, r, ht, q1⟩ := S1.rs1 r1 q1
    obtain ⟨N, h1, h2⟩ := ro_ty S1.ok r ht
    exact isi_of h2 (kit_tab h1) (q (.bl _) T1 _ ρ1 S1 e1 (.bl _) q1)⟩⟩
end
end Vl

namespace Vl
open PySem PySem.Spec PyProof.Rows L2 Hl

section
variable {Γ : Gx} {X : Cx} {T : Wo} {σ : L2.St} {ρ : Vn}
variable {e o : Expr} {es : List Expr} {te : TE} {we : WE} {wo : WO} {pos cpos apos : Pos} {i : Nat}
/-! ### methods of one's own list -/
theorem ve_app (hK : X.K = Γ.K) (ho : PE X o (tVar i)) (h : VE Γ X e te we)
    (hbase : attributeBase o "append" X.env (eval o X.env) = eval o X.env := by rfl)
    (hfew : ((backTo cpos (starEach (e :: []) X.env)).all (fun x => !x.1) && (backToKw cpos (keywordEach [] X.env)).all (fun x => x.1.isSome)
      && decide ((e :: ([] : List Expr)).length + ([] : List Keyword).length + (if ([] : List Keyword).isEmpty then 0 else 1) < 30)) = true := by rfl)
    (hline : (apos.endLine == cpos.line) = true := by rfl) (hs : starEach (e :: []) X.env = (false, eval e X.env) :: starEach [] X.env := by rfl) (hplain : (backTo cpos (starEach [] X.env)).any (·.1) = false := by rfl) :
    VE Γ X (.Call (.Attribute o "append" apos) [e] [] cpos) (tBM Γ.K "list" rAppend (tVar i) (tCons te tNil)) (wApp i we) :=
  ⟨by rw [← hK]; exact pe_bm PySem.F.plainAttrs_list PySem.F.slot_list_append PySem.F.type_list_append mt_append ho (pa_cons h.pe pa_nil hs) hbase hfew hline hs hplain, se_app h.se⟩
theorem ve_ext (hK : X.K = Γ.K) (ho : PE X o (tVar i)) (h : VO Γ X e te wo)
    (hbase : attributeBase o "extend" X.env (eval o X.env) = eval o X.env := by rfl)
    (hfew : ((backTo cpos (starEach (e :: []) X.env)).all (fun x => !x.1) && (backToKw cpos (keywordEach [] X.env)).all (fun x => x.1.isSome)
      && decide ((e :: ([] : List Expr)).length + ([] : List Keyword).length + (if ([] : List Keyword).isEmpty then 0 else 1) < 30)) = true := by rfl)
    (hline : (apos.endLine == cpos.line) = true := by rfl) (hs : starEach (e :: []) X.env = (false, eval e X.env) :: starEach [] X.env := by rfl) (hplain : (backTo cpos (starEach [] X.env)).any (·.1) = false := by rfl) :
    VE Γ X (.Call (.Attribute o "extend" apos) [e] [] cpos) (tBM Γ.K "list" rExtend (tVar i) (tCons te tNil)) (wExt i wo) :=
  ⟨by rw [← hK]; exact pe_bm PySem.F.plainAttrs_list PySem.F.slot_list_extend PySem.F.type_list_extend mt_extend ho (pa_cons h.pe pa_nil hs) hbase hfew hline hs hplain, se_ext h.se⟩
theorem ve_popAt (hK : X.K = Γ.K) (ho : PE X o (tVar i)) (h : VE Γ X e te we)
    (hbase : attributeBase o "pop" X.env (eval o X.env) = eval o X.env := by rfl)
    (hfew : ((backTo cpos (starEach (e :: []) X.env)).all (fun x => !x.1) && (backToKw cpos (keywordEach [] X.env)).all (fun x => x.1.isSome)
      && decide ((e :: ([] : List Expr)).length + ([] : List Keyword).length + (if ([] : List Keyword).isEmpty then 0 else 1) < 30)) = true := by rfl)
    (hline : (apos.endLine == cpos.line) = true := by rfl) (hs : starEach (e :: []) X.env = (false, eval e X.env) :: starEach [] X.env := by rfl) (hplain : (backTo cpos (starEach [] X.env)).any (·.1) = false := by rfl) :
    VE Γ X (.Call (.Attribute o "pop" apos) [e] [] cpos) (tBM Γ.K "list" rPopAt (tVar i) (tCons te tNil)) (wPopAt i we) :=
  ⟨by rw [← hK]; exact pe_bm PySem.F.plainAttrs_list PySem.F.slot_list_pop PySem.F.type_list_pop mt_popAt ho (pa_cons h.pe pa_nil hs) hbase hfew hline hs hplain, se_popAt h.se⟩
theorem ve_pop (hK : X.K = Γ.K) (ho : PE X o (tVar i))
    (hbase : attributeBase o "pop" X.env (eval o X.env) = eval o X.env := by rfl) (hline : (apos.endLine == cpos.line) = true := by rfl) :
    VE Γ X (.Call (.Attribute o "pop" apos) [] [] cpos) (tBM0 Γ.K "list" rPop (tVar i)) (wPop i) :=
  ⟨by rw [← hK]; exact pe_bm0 PySem.F.plainAttrs_list PySem.F.slot_list_pop PySem.F.type_list_pop mt_pop ho hbase hline, se_pop⟩
/-- found[i] = e -/
@[simp] def wSetIx (i : Nat) (w : WE) (wi : WE) : WS := fun D ρ => w ρ fun d ρ1 => cOwn (ρ1.getD i .no) fun _ => wi ρ1 fun j ρ2 => match j with
  | .int j => cOwn (ρ2.getD i .no) fun l => oK (ixN l.length j) fun k => D.nx (ρ2.set i (.own (l.set k d)))
  | _ => False
theorem ss_setIx {ti : TE} {wi : WE} (h : SE Γ te we) (hi : SE Γ ti wi) : SS Γ (tAsg te (gSub (tVar i) ti rSetL)) (wSetIx i we wi) := ⟨fun {T σ ρ D D'} S hw a b c d => h.h S hw fun v T1 x ρ1 S1 e1 r1 q1 => by
  obtain ⟨p, vs, l, hi', hs, hp, r, nF, n0, nd, q1⟩ := S1.ownAt q1
  refine ⟨_, hs, hi.h S1 q1 fun u T2 j ρ2 S2 e2 r2 q2 => ?_⟩
  cases j <;> first | exact q2.elim | skip
  cases r2
  obtain ⟨p', vs', l', hi', hs', hp, r, nF, n0, nd, hw⟩ := S2.ownAt q2
  rw [hs] at hs'; cases hs'
  obtain ⟨k, hk, hw⟩ := oK_of hw
  obtain ⟨S3, e3⟩ := S2.putL (l' := l'.set k x) hi' hs nF n0 nd (r.set k (R.ext e2 r1))
  exact ⟨_, _, _, k, rfl, rfl, hp, by rw [r.len]; exact hk, a _ σ _ S3 ((e1.trans e2).trans e3) hw⟩⟩
theorem vs_setIx {ei : Expr} {ti : TE} {wi : WE} {spos : Pos} (ho : PE X o (tVar i)) (h : VE Γ X e te we) (hi : VE Γ X ei ti wi)
    (hs : swapsWithSole [.Subscript o ei pos] e spos.line X.env = pure false := by rfl) (hw : swappedStores [.Subscript o ei pos] e X.env = pure none := by rfl)
    (h1 : (assignEach [.Subscript o ei pos] X.env).map (·.2) = [assign (.Subscript o ei pos) X.env] := by rfl)
    (ha : ∀ v, assign (.Subscript o ei pos) X.env v = (do
      let ov ← holding [v] (eval o X.env)
      let iv ← holding [v, ov] (eval ei X.env)
      standAt pos
      holding [v, ov, iv] (setItem ov iv v)
      release [v, ov, iv] []) := by intro _; rfl) : VS Γ X (.Assign [.Subscript o ei pos] e spos) (tAsg te (gSub (tVar i) ti rSetL)) (wSetIx i we wi) :=
  ⟨ps_asg h.pe (pg_sub ho hi.pe set_list ha) hs hw h1, ss_setIx h.se hi.se⟩
/-! ### slices -/
abbrev WP := Vn → (Option Int → Vn → Prop) → Prop
structure SP' (Γ : Gx) (t : TO) (w : WP) : Prop where
  h : ∀ {T : Wo} {σ : L2.St} {ρ : Vn} {Q : Option Int → Vn → Prop} {Q' : Option Int → Hp → Prop}, Sv Γ T σ ρ → w ρ Q → (∀ v T' ρ', Sv Γ T' σ ρ' → Ext Γ T T' → Q v ρ' → Q' v T'.H) → t σ T.H Q'
structure VP (Γ : Gx) (X : Cx) (e : Option Expr) (t : TO) (w : WP) : Prop where
  pe : PO X e t
  se : SP' Γ t w
@[simp] def wPN : WP := fun ρ Q => Q none ρ
@[simp] def wPS (w : WE) : WP := fun ρ Q => w ρ fun d ρ1 => match d with
  | .int i => Q (some i) ρ1
  | _ => False
theorem vp_none : VP Γ X none tNoPart wPN := ⟨po_none, ⟨fun {T σ ρ Q Q'} S hw q => q none T ρ S .refl hw⟩⟩
theorem vp_some (h : VE Γ X e te we) : VP Γ X (some e) (tPart te) (wPS we) := ⟨po_some h.pe, ⟨fun {T σ ρ Q Q'} S hw q => h.se.h S hw fun v T1 d ρ1 S1 e1 r1 q1 => by
  cases d <;> first | exact q1.elim | skip
  cases r1
  exact ⟨_, rfl, q _ T1 ρ1 S1 e1 q1⟩⟩⟩
def cutD (l : List D) (lo hi : Option Int) : List D := (l.drop (HT.sIx l.length 0 lo)).take (HT.sIx l.length l.length hi - HT.sIx l.length 0 lo)
theorem RA.cut {H0 Hd : Hp} {vs : List V} {l : List D} (h : RA Γ H0 Hd vs l) (lo hi : Option Int) : RA Γ H0 Hd (cutV vs lo hi) (cutD l lo hi) := by
  unfold cutV cutD
  rw [h.len]
  exact (h.drop _).take _
abbrev rSlP (K : PySem.W.Frag) : V → Option Int → Option Int → Hp → VK → Prop := fun x lo hi H Q => rSlL K x lo hi H Q ∨ (fun x lo hi H Q => rSlA K x lo hi H Q ∨ rSlS x lo hi H Q) x lo hi H Q
theorem sl_P {K : PySem.W.Frag} (h : X.K = K) : SlR X (rSlP K) := by subst h; exact SlR.or sl_list (SlR.or sl_tupA sl_str)
@[simp] def wSl3 (w : WO) (wl wh : WP) : WE := fun ρ Q => w ρ fun a ρ1 => wl ρ1 fun lo ρ2 => wh ρ2 fun hi ρ3 => rs1 ρ3 a fun d => match d with
  | .lst l => Q (.lst (cutD l lo hi)) ρ3
  | .tup l => Q (.tup (cutD l lo hi)) ρ3
  | .str z => z.length ≤ sizeLine ∧ Q (.str (cutS z lo hi)) ρ3
  | _ => False
@[simp] def wSlF (w : WO) (wl wh : WP) : WF := fun ρ Q => w ρ fun a ρ1 => wl ρ1 fun lo ρ2 => wh ρ2 fun hi ρ3 => rs1 ρ3 a fun d => match d with
  | .lst l => Q (cutD l lo hi) ρ3
  | _ => False
theorem se_sl {tl th : TO} {wl wh : WP} (h : SO Γ te wo) (hl : SP' Γ tl wl) (hh : SP' Γ th wh) : SE Γ (tSl (rSlP Γ.K) te tl th) (wSl3 wo wl wh) := ⟨fun {T σ ρ Q Q'} S hw q =>
  h.h S hw fun v T1 a ρ1 S1 e1 r1 q1 => hl.h S1 q1 fun lo T2 ρ2 S2 e2 q2 => hh.h S2 q2 fun hi T3 ρ3 S3 e3 q3 => by
    obtain ⟨d, r, q3⟩ := S3.rs1 ((r1.ext e2).ext e3) q3
    have E := (e1.trans e2).trans e3
    cases d <;> first | exact q3.elim | skip
    · cases r.str
      exact .inr (.inr ⟨_, rfl, q3.1, q _ T3 _ ρ3 S3 E (.str _) q3.2⟩)
    · obtain ⟨p, vs, rfl, hp, rp⟩ := r.tup S3.ok
      refine .inr (.inl ⟨p, vs, rfl, hp, fun hz => ?_, fun _ a n => ?_⟩)
      · cases r with
        | sh r =>
          rename_i l
          have z : cutD l lo hi = l := by
            unfold cutD
            rw [← rp.len, hz.1, hz.2, List.drop_zero, Nat.sub_zero, rp.len, List.take_length]
          have q4 : Q (.tup (cutD l lo hi)) ρ3 := q3
          rw [z] at q4
          exact q _ T3 _ ρ3 S3 E r q4
      · have g := Gr.new (o := .tup (cutV vs lo hi)) S3.ok n
        exact q _ _ _ ρ3 (S3.grow g) (E.trans g.ext) (r_tup S3.ok n (rp.cut lo hi)) q3
    · obtain ⟨p, vs, rfl, hp, rp⟩ := r.lst S3.ok
      refine .inl ⟨p, vs, rfl, SqL.of hp, fun a n => ?_⟩
      have g := Gr.new (o := .lst (cutV vs lo hi)) S3.ok n
      exact q _ _ _ ρ3 (S3.grow g) (E.trans g.ext) (r_lst S3.ok n (rp.cut lo hi)) q3⟩
theorem sf_sl {tl th : TO} {wl wh : WP} (h : SO Γ te wo) (hl : SP' Γ tl wl) (hh : SP' Γ th wh) : SF Γ (tSl (rSlP Γ.K) te tl th) (wSlF wo wl wh) := ⟨fun {T σ ρ Q Q'} S hw q =>
  h.h S hw fun v T1 a ρ1 S1 e1 r1 q1 => hl.h S1 q1 fun lo T2 ρ2 S2 e2 q2 => hh.h S2 q2 fun hi T3 ρ3 S3 e3 q3 => by
    obtain ⟨d, r, q3⟩ := S3.rs1 ((r1.ext e2).ext e3) q3
    cases d <;> first | exact q3.elim | skip
    obtain ⟨p, vs, rfl, hp, rp⟩ := r.lst S3.ok
    exact .inl ⟨p, vs, rfl, SqL.of hp, fun a n => sf_new S3 ((e1.trans e2).trans e3) q n (rp.cut lo hi) q3⟩⟩
variable {lo hi : Option Expr} {tl th : TO} {wl wh : WP} {p2 : Pos}
theorem ve_sl (hK : X.K = Γ.K) (h : VO Γ X e te wo) (hl : VP Γ X lo tl wl) (hh : VP Γ X hi th wh) : VE Γ X (.Subscript e (.Slice lo hi none p2) pos) (tSl (rSlP Γ.K) te tl th) (wSl3 wo wl wh) := ⟨pe_slice (sl_P hK) h.pe hl.pe hh.pe, se_sl h.se hl.se hh.se⟩
theorem vf_sl (hK : X.K = Γ.K) (h : VO Γ X e te wo) (hl : VP Γ X lo tl wl) (hh : VP Γ X hi th wh) : VF Γ X (.Subscript e (.Slice lo hi none p2) pos) (tSl (rSlP Γ.K) te tl th) (wSlF wo wl wh) := ⟨pe_slice (sl_P hK) h.pe hl.pe hh.pe, sf_sl h.se hl.se hh.se⟩
/-- xs[::-1] of a list -/
@[simp] def wRevF (w : WO) : WF := fun ρ Q => w ρ fun a ρ1 => rs1 ρ1 a fun d => match d with
  | .lst l => Q l.reverse ρ1
  | _ => False
theorem vf_rev {k : Nat} {p1 p2 p3 : Pos} (hK : X.K = Γ.K) (h : VO Γ X e te wo) : VF Γ X (.Subscript e (.Slice none none (some (.UnaryOp .USub (.Constant (.int 1) k p1) p2)) p3) pos) (tRevL Γ.K te) (wRevF wo) := ⟨by rw [← hK]; exact pe_revL h.pe, ⟨fun {T σ ρ Q Q'} S hw q => h.se.h S hw fun v T1 a ρ1 S1 e1 r1 q1 => by
  obtain ⟨d, r, q1⟩ := S1.rs1 r1 q1
  cases d <;> first | exact q1.elim | skip
  obtain ⟨p, vs, rfl, hp, rp⟩ := r.lst S1.ok
  exact ⟨p, vs, rfl, SqL.of hp, fun a n => sf_new S1 e1 q n rp.reverse q1⟩⟩⟩
/-! ### enumerate, zip -/
def prI (i : Nat) (d : D) : D := .tup [.int (i : Nat), d]
def enD (l : List D) : List D := l.mapIdx prI
def iEnumP (K : PySem.W.Frag) (ta : TA) : TI := fun σ H R => ta σ H fun vs H1 => (∃ a xs, vs = [.ref a] ∧ SqL K H1 a xs ∧ R (Ite K a) H1) ∨ (∃ a xs, vs = [.ref a] ∧ SqT K H1 a xs ∧ R (IteT K a) H1)
theorem pi_enumP {ta : TA} {p tpos : Pos} {elts : List Expr} {kk : Nat} (hg : Gl X "enumerate") (hm : X.mg "enumerate" = none) (ha : PA X [e] ta) (hs : starEach [e] X.env = [(false, eval e X.env)] := by rfl) :
    PI X (.Tuple elts kk tpos) (.Call (.Name "enumerate" p) [e] [] pos) (iEnumP X.K ta) := by
  refine ⟨fun pins s σ H R I h => ?_⟩
  refine Call_ (ld_blt I hg hm boot_enumerate (PyProof.Rows.callWith_type1 (thn (ha.run pos pins s σ H _ I h) fun us s1 ⟨vs, H1, I1, r1, q1⟩ => ?_) hs rfl))
  rcases q1 with ⟨a, xs, ex, hq, q⟩ | ⟨a, xs, ex, hq, q⟩
  · subst ex
    cases r1 with
    | cons r rr =>
      cases rr
      cases r
      obtain ⟨its, rv, p', hz⟩ := I1.list hq
      refine call_enumerate_list p'.isList fun h' he hit hsz hk => wpAny_pyIter_enum he ?_
      have I2 : Inv X pins σ H1 { s1 with heap := h' } := I1.kept (t' := s1.toks) hk
      refine ⟨s1.heap.objs.size + 1, [s1.heap.objs.size + 1, s1.heap.objs.size], _, _, H1, rfl, I2, turn_enum a (s1.heap.objs.size + 1) s1.heap.objs.size, ⟨⟨.none, he⟩, hit, Nat.succ_ne_self _⟩, fun b hb => ?_, q⟩
      have e' : b = s1.heap.objs.size + 1 ∨ b = s1.heap.objs.size := by simpa using hb
      have hle : s1.heap.objs.size ≤ b := by
        rcases e' with z | z
        · rw [z]; exact Nat.le_add_right _ _
        · rw [z]; exact Nat.le_refl _
      exact I1.fpOk hle (I1.hok.fresh hle)
  · subst ex
    cases r1 with
    | cons r rr =>
      cases rr
      cases r
      obtain ⟨its, rv, p', hz⟩ := I1.tuple hq
      have hal : a < s1.heap.objs.size := p'.lt
      refine call_enumerate_tuple (items := its.toArray) p' fun h' he hit hsz hk => wpAny_pyIter_enum he ?_
      have I2 : Inv X pins σ H1 { s1 with heap := h' } := I1.kept (t' := s1.toks) hk
      refine ⟨s1.heap.objs.size + 1, [s1.heap.objs.size + 1, s1.heap.objs.size], _, _, H1, rfl, I2, turn_enumT a (s1.heap.objs.size + 1) s1.heap.objs.size (Nat.ne_of_lt hal) (Ne.symm (Nat.ne_of_lt (Nat.lt_succ_of_lt hal))), ⟨⟨.none, he⟩, hit, Nat.succ_ne_self _⟩, fun b hb => ?_, q⟩
      have e' : b = s1.heap.objs.size + 1 ∨ b = s1.heap.objs.size := by simpa using hb
      have hle : s1.heap.objs.size ≤ b := by
        rcases e' with z | z
        · rw [z]; exact Nat.le_add_right _ _
        · rw [z]; exact Nat.le_refl _
      exact I1.fpOk hle (I1.hok.fresh hle)
theorem its_enum {p : Addr} {vs : List V} {ds : List D} {J : It} (r : RA Γ T.H0 T.Hd vs ds) (hg : ∀ T', Lat Γ T T' → ∀ i x, vs[i]? = some x → J.go i T'.H) (hst : ∀ T', Lat Γ T T' → J.stop vs.length T'.H)
    (hy : ∀ T', Lat Γ T T' → ∀ i x H', J.yld i T'.H x H' → ∃ t y, x = .ref t ∧ T'.H t = none ∧ H' = upd T'.H t (.tup [.int (i : Nat), y]) ∧ vs[i]? = some y) : Its Γ T J (enD ds) := by
  have el : (enD ds).length = ds.length := by simp [enD]
  refine ⟨fun T' l i hi => ?_, fun T' l => by rw [el, ← r.len]; exact hst T' l, fun T' l i d x H' hd hyl => ?_⟩
  · rw [el] at hi
    obtain ⟨x, hx⟩ := lt_at r hi
    exact hg T' l i x hx
  · obtain ⟨t, y, rfl, n, rfl, hx⟩ := hy T' l i x H' hyl
    obtain ⟨d', hd', ry⟩ := (l.ext r).get' hx
    have z : d = prI i d' := by
      unfold enD at hd
      rw [List.getElem?_mapIdx, hd'] at hd
      cases hd; rfl
    subst z
    refine ⟨_, Gr.new (o := .tup [.int (i : Nat), y]) l.ok n, rfl, ?_⟩
    exact r_tup l.ok n (.cons (.int _) (.cons ry .nil))
@[simp] def wEnum (w : WA) : WI := fun ρ Q => w ρ fun as ρ1 => match as with
  | [a] => rsW ρ1 a fun d => itD d fun l => Q (enD l) ρ1
  | _ => False
theorem si_enum {t : TA} {w : WA} (h : SA Γ t w) : SI Γ (iEnumP Γ.K t) (wEnum w) := ⟨fun {T σ ρ Q Q'} S hw q => h.h S hw fun vs T1 as ρ1 S1 e1 r1 q1 => by
  match as, r1, q1 with
  | [a], .cons ra .nil, q1 =>
    obtain ⟨d, rd, q1⟩ := S1.rsW ra q1
    cases d <;> first | exact q1.elim | skip
    · cases rd with
      | sh r =>
        cases r with
        | tup hp ra =>
          refine .inr ⟨_, _, rfl, tT S1.ok.s0 hp, q _ T1 _ ρ1 S1 e1 (its_enum ra (p := 0) ?_ ?_ ?_) q1⟩
          · exact fun T' l i x hx => ⟨_, x, tT l.ok.s0 (l.s0 _ _ hp), hx⟩
          · exact fun T' l => ⟨_, tT l.ok.s0 (l.s0 _ _ hp), rfl⟩
          · rintro T' l i x H' ⟨t, y, rfl, n, rfl, hh⟩
            exact ⟨t, y, rfl, n, rfl, hh _ (tT l.ok.s0 (l.s0 _ _ hp))⟩
    · have fin : ∀ {p vs l}, (∀ T', Lat Γ T1 T' → SqL Γ.K T'.H p vs) → RA Γ T1.H0 T1.Hd vs l → Q (enD l) ρ1 → iEnumP Γ.K (fun σ H k => k [.ref p] H) σ T1.H Q' := fun {p vs l} hs ra q1 => by
        refine .inl ⟨p, vs, rfl, hs T1 ⟨S1.ok, Same.refl _, Same.refl _, fun _ h => h⟩, q _ T1 _ ρ1 S1 e1 (its_enum ra (p := 0) ?_ ?_ ?_) q1⟩
        · exact fun T' l i x hx => ⟨_, x, hs T' l, hx⟩
        · exact fun T' l => ⟨_, hs T' l, Nat.le_refl _⟩
        · rintro T' l i x H' ⟨t, y, rfl, n, rfl, hh⟩
          exact ⟨t, y, rfl, n, rfl, hh _ (hs T' l)⟩
      cases rd with
      | sh r =>
        cases r with
        | lst hp ra => exact fin (fun T' l => SqL.of (l.ok.s0 _ _ (l.s0 _ _ hp))) ra q1
      | pi hp ra => exact fin (fun T' l => SqL.of (l.ok.sF _ _ (l.f _ _ hp))) ra q1⟩
theorem vi_enum {ta : TA} {wa : WA} {p tpos : Pos} {elts : List Expr} {kk : Nat} (hK : X.K = Γ.K) (hg : Gl X "enumerate") (hm : X.mg "enumerate" = none) (ha : VA Γ X [e] ta wa) (hs : starEach [e] X.env = [(false, eval e X.env)] := by rfl) :
    VI Γ X (.Tuple elts kk tpos) (.Call (.Name "enumerate" p) [e] [] pos) (iEnumP Γ.K ta) (wEnum wa) := ⟨by rw [← hK]; exact pi_enumP hg hm ha.pe hs, si_enum ha.se⟩
end
end Vl

namespace Vl
open PySem PySem.Spec PyProof.Rows L2 Hl

section
variable {Γ : Gx} {X : Cx} {T : Wo} {σ : L2.St} {ρ : Vn}
/-! ### dicts with int and text keys -/
@[simp] def D.keyO : D → Option Key
  | .int i => some (.inl i)
  | .str z => some (.inr z)
  | _ => none
theorem RO.key {v : V} {d : D} {k : Key} (h : RO Γ T v d) (e : d.keyO = some k) : v = kV k := by
  cases d <;> first | cases e | skip
  · cases h.int; rfl
  · cases h.str; rfl
def valD (kvs : List (Key × D)) (k : Key) : Option D := (kvs.find? fun kv => decide (kv.1 = k)).map (·.2)
def putKD (kvs : List (Key × D)) (k : Key) (v : D) : List (Key × D) :=
  if (kvs.any fun kv => decide (kv.1 = k)) = true then kvs.map (fun kv => if kv.1 = k then (kv.1, v) else kv) else kvs ++ [(k, v)]
theorem RK.len {H0 Hd : Hp} : ∀ {vs : List (Key × V)} {l : List (Key × D)}, RK Γ H0 Hd vs l → vs.length = l.length
  | _, _, .nil => rfl
  | _, _, .cons _ t => by rw [List.length_cons, List.length_cons, t.len]
theorem RK.val {H0 Hd : Hp} (k : Key) : ∀ {vs : List (Key × V)} {l : List (Key × D)}, RK Γ H0 Hd vs l → (valV vs k).isSome = (valD l k).isSome ∧ ∀ d, valD l k = some d → ∃ v, valV vs k = some v ∧ R Γ H0 Hd v d
  | _, _, .nil => ⟨rfl, fun _ h => nomatch h⟩
  | _, _, .cons (k := k') (v := v) (d := d) (vs := vs) (l := l) h t => by
    obtain ⟨h1, h2⟩ := t.val k
    by_cases e : k' = k
    · have e1 : valV ((k', v) :: vs) k = some v := valV_pos e
      have e2 : valD ((k', d) :: l) k = some d := by simp [valD, List.find?_cons, e]
      rw [e1, e2]
      exact ⟨rfl, fun d' hd => by cases hd; exact ⟨v, rfl, h⟩⟩
    · have e1 : valV ((k', v) :: vs) k = valV vs k := valV_neg e
      have e2 : valD ((k', d) :: l) k = valD l k := by simp [valD, List.find?_cons, e]
      rw [e1, e2]
      exact ⟨h1, h2⟩
theorem RK.any {H0 Hd : Hp} (k : Key) : ∀ {vs : List (Key × V)} {l : List (Key × D)}, RK Γ H0 Hd vs l → (vs.any fun kv => decide (kv.1 = k)) = (l.any fun kv => decide (kv.1 = k))
  | _, _, .nil => rfl
  | _, _, .cons h t => by rw [List.any_cons, List.any_cons, t.any k]
theorem RK.app {H0 Hd : Hp} : ∀ {vs ws : List (Key × V)} {l m : List (Key × D)}, RK Γ H0 Hd vs l → RK Γ H0 Hd ws m → RK Γ H0 Hd (vs ++ ws) (l ++ m)
  | _, _, _, _, .nil, h => h
  | _, _, _, _, .cons h t, u => .cons h (t.app u)
theorem RK.upd {H0 Hd : Hp} {v : V} {d : D} (k : Key) (hv : R Γ H0 Hd v d) : ∀ {vs : List (Key × V)} {l : List (Key × D)}, RK Γ H0 Hd vs l → RK Γ H0 Hd (vs.map fun kv => if kv.1 = k then (kv.1, v) else kv) (l.map fun kv => if kv.1 = k then (kv.1, d) else kv)
  | _, _, .nil => .nil
  | _, _, .cons (k := k') h t => by
    rw [List.map_cons, List.map_cons]
    by_cases e : k' = k
    · simp only [e, if_true]; exact .cons hv (t.upd k hv)
    · simp only [e, if_false]; exact .cons h (t.upd k hv)
theorem RK.put {H0 Hd : Hp} {v : V} {d : D} (k : Key) (hv : R Γ H0 Hd v d) {vs : List (Key × V)} {l : List (Key × D)} (h : RK Γ H0 Hd vs l) : RK Γ H0 Hd (putK vs k v) (putKD l k d) := by
  unfold putK putKD
  rw [h.any k]
  split
  · exact h.upd k hv
  · exact h.app (.cons hv .nil)
variable {e o : Expr} {es : List Expr} {te ti : TE} {we wi : WE} {wo : WO} {pos cpos apos : Pos} {i : Nat}
theorem Sv.dicAt {k : List (Key × D) → Prop} (S : Sv Γ T σ ρ) (h : cDic (ρ.getD i .no) k) : ∃ p vs l, ρ[i]? = some (.dic l) ∧ σ[i]? = some (some (.ref p)) ∧ T.H p = some (.dK vs) ∧ RK Γ T.H0 T.Hd vs l ∧ T.F p = none ∧ T.H0 p = none ∧ T.Hd p = none ∧ k l := by
  obtain ⟨l, e, h⟩ := cDic_of h
  have e' := getD_of e (by simp)
  obtain ⟨s, e1, p, vs, e2, hp, r, n1, n2, n3⟩ := S.cell i _ e'
  exact ⟨p, vs, l, e', by rw [e1, e2], hp, r, n1, n2, n3, h⟩
theorem Sv.putDK {p : Addr} {vs : List (Key × V)} {l l' : List (Key × D)} (S : Sv Γ T σ ρ) (hi : ρ[i]? = some (.dic l)) (hs : σ[i]? = some (some (.ref p))) (nF : T.F p = none) (n0 : T.H0 p = none) (nd : T.Hd p = none) (r : RK Γ T.H0 T.Hd vs l') :
    Sv Γ ⟨T.F, T.H0, T.Hd, upd T.H p (.dK vs), T.P⟩ σ (ρ.set i (.dic l')) ∧ Ext Γ T ⟨T.F, T.H0, T.Hd, upd T.H p (.dK vs), T.P⟩ :=
  S.put hi rfl hs nF n0 nd (fun T' h1 h2 h3 h4 => ⟨p, vs, rfl, h4, by rw [h2, h3]; exact r, by rw [h1]; exact nF, by rw [h2]; exact n0, by rw [h3]; exact nd⟩) rfl
/-- x = {} -/
@[simp] def wSetD (i : Nat) : WS := fun D ρ => D.nx (ρ.set i (.dic []))
theorem ss_setD : SS Γ (tAsg tDNewK (gName i)) (wSetD i) := ⟨fun {T σ ρ D D'} S hw a b c d => by
  intro p n
  have g := Gr.priv (o := .dK []) S.ok n
  have S1 := S.grow g
  exact a ⟨T.F, T.H0, T.Hd, upd T.H p (.dK []), T.P⟩ _ _ (S1.set (c := .dic []) ⟨p, [], rfl, upd_same, .nil, none_of_le S.ok.sF n, none_of_le S.ok.s0 n, none_of_le S.ok.sd n⟩ fun _ j p' c' e2 e3 pc e4 => by cases e2; exact absurd e4 (fresh_priv S n j c' e3 pc)) g.ext hw⟩
theorem vs_setD {x : Str} {pos' dpos : Pos} (hN : X.N.Nodup) (hi : X.N[i]? = some x) (hx : Loc X.env.scope x) (hs : swapsWith (.Dict [] [] dpos) (some (.Name x pos')) pos.line X.env = pure false := by rfl) (hf : X.fn x = true ∨ X.env.scope.names.lookup x = some .local := by first | exact .inl rfl | exact .inr rfl | assumption) :
    VS Γ X (.Assign [.Name x pos'] (.Dict [] [] dpos) pos) (tAsg tDNewK (gName i)) (wSetD i) := ⟨ps_set hN hi hx pe_dnewK hs hf, ss_setD⟩
/-- x[k] = e -/
@[simp] def wDput (i : Nat) (w wk : WE) : WS := fun D ρ => w ρ fun d ρ1 => cDic (ρ1.getD i .no) fun _ => wk ρ1 fun j ρ2 => oK j.keyO fun k => cDic (ρ2.getD i .no) fun l => l.length < sizeLine ∧ D.nx (ρ2.set i (.dic (putKD l k d)))
theorem ss_dput (h : SE Γ te we) (hk : SE Γ ti wi) : SS Γ (sDPut (tVar i) ti te) (wDput i we wi) := ⟨fun {T σ ρ D D'} S hw a b c d => h.h S hw fun v T1 x ρ1 S1 e1 r1 q1 => by
  obtain ⟨p, vs, l, hi', hs, hp, r, nF, n0, nd, q1⟩ := S1.dicAt q1
  refine ⟨_, hs, hk.h S1 q1 fun u T2 j ρ2 S2 e2 r2 q2 => ?_⟩
  obtain ⟨k, ek, q2⟩ := oK_of q2
  obtain ⟨p', vs', l', hi', hs', hp, r, nF, n0, nd, hz, hw⟩ := S2.dicAt q2
  rw [hs] at hs'; cases hs'
  obtain ⟨S3, e3⟩ := S2.putDK (l' := putKD l' k x) hi' hs nF n0 nd (r.put k (R.ext e2 r1))
  cases (RO.sh r2).key ek
  exact ⟨_, _, rfl, DPut.k hp (by rw [r.len]; exact hz), a _ σ _ S3 ((e1.trans e2).trans e3) hw⟩⟩
theorem vs_dput {ei : Expr} {pos' : Pos} (hu : X.A.units + 1 < cLine) (ho : PE X o (tVar i)) (hi : VE Γ X ei ti wi) (hv : VE Γ X e te we) (hs : swapsWith e (some (.Subscript o ei pos')) pos.line X.env = pure false := by rfl) :
    VS Γ X (.Assign [.Subscript o ei pos'] e pos) (sDPut (tVar i) ti te) (wDput i we wi) := ⟨ps_dput hu ho hi.pe hv.pe hs, ss_dput hv.se hi.se⟩
/-- x[k] -/
@[simp] def wDget (w : WO) (wk : WE) : WE := fun ρ Q => w ρ fun a ρ1 => wk ρ1 fun j ρ2 => oK j.keyO fun k => rs1 ρ2 a fun d => match d with
  | .dct l => oK (valD l k) fun v => Q v ρ2
  | _ => False
theorem ve_dget {ei : Expr} {tk : TE} {wk : WE} (hu : X.A.units + 1 < cLine) (ho : VO Γ X o te wo) (hi : VE Γ X ei tk wk) (hsl : NoSl ei) : VE Γ X (.Subscript o ei pos) (tDGet te tk) (wDget wo wk) := ⟨pe_dget hu ho.pe hi.pe hsl, ⟨fun {T σ ρ Q Q'} S hw q => ho.se.h S hw fun v T1 a ρ1 S1 e1 r1 q1 => hi.se.h S1 q1 fun u T2 j ρ2 S2 e2 r2 q2 => by
  obtain ⟨k, ek, q2⟩ := oK_of q2
  obtain ⟨d, rd, q2⟩ := S2.rs1 (r1.ext e2) q2
  cases d <;> first | exact q2.elim | skip
  obtain ⟨v', ev, q2⟩ := oK_of q2
  obtain ⟨p, vs, rfl, hp, rk⟩ := rd.dct S2.ok
  obtain ⟨z, hz, rz⟩ := (rk.val k).2 _ ev
  cases (RO.sh r2).key ek
  exact ⟨p, z, rfl, .inl ⟨vs, k, .inl hp, rfl, hz.symm⟩, q z T2 v' ρ2 S2 (e1.trans e2) rz q2⟩⟩⟩
/-- in, not in: a list, a tuple, a dict -/
def rDIn (neg : Bool) : R2 := fun y x H Q => ∃ a o, x = .ref a ∧ DGet H a y o ∧ Q (.bl (if neg then !o.isSome else o.isSome)) H
theorem op_din (hu : X.A.units + 1 < cLine) : OpR X (compareOp .In) (rDIn false) := by
  intro pins s σ H y x iv u Q I ry rx h
  obtain ⟨a, ov, ex, g, q2⟩ := h
  subst ex
  obtain rfl : u = Value.ref a := rx
  exact d_in hu I g ry fun s3 I3 => ⟨.bl ov.isSome, H, I3, rfl, q2⟩
theorem op_dnotin (hu : X.A.units + 1 < cLine) : OpR X (compareOp .NotIn) (rDIn true) := by
  intro pins s σ H y x iv u Q I ry rx h
  obtain ⟨a, ov, ex, g, q2⟩ := h
  subst ex
  obtain rfl : u = Value.ref a := rx
  exact d_notIn hu I g ry fun s3 I3 => ⟨.bl (!ov.isSome), H, I3, rfl, q2⟩
abbrev rInP (K : PySem.W.Frag) (neg : Bool) : R2 := fun x y H Q => rIn K neg x y H Q ∨ rDIn neg x y H Q
theorem op_inP {K : PySem.W.Frag} (h : X.K = K) (hu : X.A.units + 1 < cLine) : OpR X (compareOp .In) (rInP K false) := by subst h; exact opr_or op_in_seq (op_din hu)
theorem op_notInP {K : PySem.W.Frag} (h : X.K = K) (hu : X.A.units + 1 < cLine) : OpR X (compareOp .NotIn) (rInP K true) := by subst h; exact opr_or op_notIn_seq (op_dnotin hu)
@[simp] def gInP (neg : Bool) : G2
  | x, .lst l, k => (x.flat = true ∧ l.all D.flat = true) ∧ k (.bl (if neg then !x.mem l else x.mem l))
  | x, .tup l, k => (x.flat = true ∧ l.all D.flat = true) ∧ k (.bl (if neg then !x.mem l else x.mem l))
  | x, .dct l, k => oK x.keyO fun z => k (.bl (if neg then !(valD l z).isSome else (valD l z).isSome))
  | _, _, _ => False
theorem os_inP {neg : Bool} : OS Γ (rInP Γ.K neg) (gInP neg) := ⟨fun {T x y a b Q Q'} ok rx ry h q => by
  cases b <;> first | exact h.elim | skip
  · obtain ⟨p, vs, rfl, hp, rp⟩ := ry.tup ok
    obtain ⟨⟨f1, f2⟩, h⟩ := h
    refine .inl ⟨p, vs, rfl, .inr hp, (rx.fl f1).flat f1, rp.flat f2, ?_⟩
    rw [rp.inV (rx.fl f1) f1 f2]
    exact gr_sc ok q (.bl _) h
  · obtain ⟨p, vs, rfl, hp, rp⟩ := ry.lst ok
    obtain ⟨⟨f1, f2⟩, h⟩ := h
    refine .inl ⟨p, vs, rfl, .inl (SqL.of hp), (rx.fl f1).flat f1, rp.flat f2, ?_⟩
    rw [rp.inV (rx.fl f1) f1 f2]
    exact gr_sc ok q (.bl _) h
  · obtain ⟨k, ek, h⟩ := oK_of h
    obtain ⟨p, vs, rfl, hp, rk⟩ := ry.dct ok
    cases rx.key ek
    refine .inr ⟨p, _, rfl, DGet.k hp, ?_⟩
    rw [(rk.val k).1]
    exact gr_sc ok q (.bl _) h⟩
/-! ### instances -/
@[simp] def putD (f : Str) (v : D) : List (Str × D) → List (Str × D)
  | [] => [(f, v)]
  | (g, x) :: r => if g = f then (g, v) :: r else (g, x) :: putD f v r
theorem RF.put {H0 Hd : Hp} {v : V} {d : D} (f : Str) (hv : R Γ H0 Hd v d) : ∀ {vs : List (Str × V)} {l : List (Str × D)}, RF Γ H0 Hd vs l → RF Γ H0 Hd (putF f v vs) (putD f d l)
  | _, _, .nil => .cons hv .nil
  | _, _, .cons (f := g) h t => by
    unfold putF putD
    split
    · exact .cons hv t
    · exact .cons h (t.put f hv)
theorem RF.len {H0 Hd : Hp} : ∀ {vs : List (Str × V)} {l : List (Str × D)}, RF Γ H0 Hd vs l → vs.length = l.length
  | _, _, .nil => rfl
  | _, _, .cons _ t => by rw [List.length_cons, List.length_cons, t.len]
theorem Sv.objAt {k : Addr → Str → List (Str × D) → Prop} (S : Sv Γ T σ ρ) (h : cObj (ρ.getD i .no) k) : ∃ p c fs C dx vf, ρ[i]? = some (.obj p c fs) ∧ σ[i]? = some (some (.ref p)) ∧ T.H p = some (.ins C dx vf) ∧ Γ.mg c = some (.ref C) ∧ Cls Γ.K C ∧ (∀ f v, vf.lookup f = some v → NoAttr Γ.K C f) ∧ RF Γ T.H0 T.Hd vf fs ∧ T.F p = none ∧ T.H0 p = none ∧ T.Hd p = none ∧ k p c fs := by
  obtain ⟨p, c, l, e, h⟩ := cObj_of h
  have e' := getD_of e (by simp)
  obtain ⟨s, e1, C, dx, vf, e2, hp, m, cl, na, r, n1, n2, n3⟩ := S.cell i _ e'
  exact ⟨p, c, l, C, dx, vf, e', by rw [e1, e2], hp, m, cl, na, r, n1, n2, n3, h⟩
@[simp] def wFldS (i : Nat) (c : Str) (f : Str) (w : WE) : WS := fun D ρ => w ρ fun d ρ1 => cObj (ρ1.getD i .no) fun p c' fs => (c' = c ∧ fs.length < 1000) ∧ D.nx (ρ1.set i (.obj p c (putD f d fs)))
theorem ss_fldS {c f : Str} (na : ∀ C, Γ.mg c = some (.ref C) → NoAttr Γ.K C f) (h : SE Γ te we) : SS Γ (sFld Γ.K (tVar i) te f) (wFldS i c f we) := ⟨fun {T σ ρ D D'} S hw a b c' d => h.h S hw fun v T1 x ρ1 S1 e1 r1 q1 => by
  obtain ⟨p, c2, fs, C, dx, vf, hi', hs, hp, m, cl, nat, r, nF, n0, nd, ⟨rfl, hz⟩, hw⟩ := S1.objAt q1
  obtain ⟨S2, e2⟩ := S1.put (c' := .obj p c2 (putD f x fs)) (o' := .ins C dx (putF f v vf)) hi' rfl hs nF n0 nd (fun T' h1 h2 h3 h4 => ⟨C, dx, _, rfl, h4, m, cl, fun g u e => by
    rw [lookup_putF] at e
    split at e
    · rename_i z; rw [z]; exact na C m
    · exact nat g u e, by rw [h2, h3]; exact r.put f r1, by rw [h1]; exact nF, by rw [h2]; exact n0, by rw [h3]; exact nd⟩) rfl
  exact ⟨_, hs, p, C, dx, vf, rfl, hp, cl, na C m, by rw [r.len]; exact hz, a _ σ _ S2 (e1.trans e2) hw⟩⟩
theorem kps_fld {f : Str} {pos' : Pos} {K : PySem.W.Frag} (hK : X.K = K) (ha : PE X o ti) (hv : PE X e te) (hs : swapsWith e (some (.Attribute o f pos')) pos.line X.env = pure false) : PS X (.Assign [.Attribute o f pos'] e pos) (sFld K ti te f) := by subst hK; exact ps_fld ha hv hs
theorem vs_fldS {c f : Str} {pos' : Pos} (hK : X.K = Γ.K) (na : ∀ C, Γ.mg c = some (.ref C) → NoAttr Γ.K C f) (ho : PE X o (tVar i)) (h : VE Γ X e te we) (hs : swapsWith e (some (.Attribute o f pos')) pos.line X.env = pure false) :
    VS Γ X (.Assign [.Attribute o f pos'] e pos) (sFld Γ.K (tVar i) te f) (wFldS i c f we) := ⟨kps_fld hK ho h.pe hs, ss_fldS na h.se⟩
/-- self.f of one's own instance -/
@[simp] def wFldO (i : Nat) (f : Str) : WE := fun ρ Q => cObj (ρ.getD i .no) fun _ _ fs => oK (fs.lookup f) fun x => Q x ρ
theorem ve_fldO {f : Str} (hK : X.K = Γ.K) (ho : PE X o (tVar i)) (hb : attributeBase o f X.env (eval o X.env) = eval o X.env) : VE Γ X (.Attribute o f pos) (tFld Γ.K (tVar i) f) (wFldO i f) := ⟨kpe_fld hK ho hb, ⟨fun {T σ ρ Q Q'} S hw q => by
  obtain ⟨p, c2, fs, C, dx, vf, hi', hs, hp, m, cl, nat, r, nF, n0, nd, hw⟩ := S.objAt hw
  obtain ⟨x, hx, hw⟩ := oK_of hw
  obtain ⟨v, hv, rv⟩ := r.lookup hx
  exact ⟨_, hs, p, C, dx, vf, v, rfl, hp, cl, nat _ _ hv, hv, q v T x ρ S .refl rv hw⟩⟩⟩
/-- what an __init__ promises: its fields by its meaning W -/
abbrev WN := List D → (List (Str × D) → Prop) → Prop
def spN (Γ : Gx) (c : Str) (W : WN) : Sp := fun vs H Q _ => ∃ T x C dx us ds P, vs = .ref x :: us ∧ T.H = H ∧ T.Ok ∧ H x = some (.ins C dx []) ∧ Γ.mg c = some (.ref C) ∧ Cls Γ.K C ∧ T.F x = none ∧ T.H0 x = none ∧ T.Hd x = none ∧ RA Γ T.H0 T.Hd us ds ∧ W ds P ∧
  ∀ T' dx' vf fs, T'.Ok → Ext Γ T T' → T'.H x = some (.ins C dx' vf) → T'.F x = none → T'.H0 x = none → T'.Hd x = none → (∀ f v, vf.lookup f = some v → NoAttr Γ.K C f) → RF Γ T'.H0 T'.Hd vf fs → P fs → Q .non T'.H
@[simp] def wInit (n m : Nat) (c : Str) (b : WS) : WN := fun ds Q => ds.length = n ∧ ∀ p, b { nx := fun ρ => cObj (ρ.getD 0 .no) fun p' c' fs => p' = p ∧ c' = c ∧ Q fs, rt := fun _ => False } (.obj p c [] :: (ds.map Cell.val ++ List.replicate (m - n - 1) .no))
theorem spN_len {c : Str} {W : WN} {n : Nat} {vs : List V} {H : Hp} {Q : VK} {E : XK} (hW : ∀ {ds P}, W ds P → ds.length = n) (h : spN Γ c W vs H Q E) : vs.length = n + 1 := by
  obtain ⟨T, x, C, dx, us, ds, P, rfl, rfl, ok, hx, m, cl, n1, n2, n3, ra, hw, q⟩ := h
  rw [List.length_cons, ra.len, hW hw]
theorem okN {c : Str} {N : List Str} {body : List Stmt} {t : TS} {b : WS} {vs : List V} {H : Hp} {Q : VK} {E : XK} {n m : Nat} (hN : N.length = m) (hb : VB Γ X body t b) (h : spN Γ c (wInit n m c b) vs H Q E) :
    ∃ t, PSs X body t ∧ t { nx := fun _ H' => Q .non H', rt := Q } (L2.start N vs) H := by
  obtain ⟨T, x, C, dx, us, ds, P, rfl, rfl, ok, hx, mg, cl, n1, n2, n3, ra, ⟨hl, hw⟩, q⟩ := h
  subst hl hN
  refine ⟨t, hb.pe, hb.se.h (D := { nx := fun ρ => cObj (ρ.getD 0 .no) fun p' c' fs => p' = x ∧ c' = c ∧ P fs, rt := fun _ => False }) (ρ := .obj x c [] :: (ds.map Cell.val ++ List.replicate (N.length - ds.length - 1) .no)) ?_ (hw x) (fun T' σ' ρ' S' e' h' => ?_) (fun T' v d ok' e' r' h' => h'.elim) (fun _ _ _ _ _ h => h.elim) (fun _ _ _ _ _ h => h.elim)⟩
  · have hat : ∀ {i : Nat} {c' : Cell}, (Cell.obj x c [] :: (ds.map Cell.val ++ List.replicate (N.length - ds.length - 1) Cell.no))[i]? = some c' → (i = 0 ∧ c' = .obj x c []) ∨ c' = .no ∨ ∃ j d, i = j + 1 ∧ c' = .val d ∧ ds[j]? = some d ∧ j < ds.length := fun {i c'} e => by
      cases i with
      | zero => simp at e; exact .inl ⟨rfl, e.symm⟩
      | succ i =>
        rw [List.getElem?_cons_succ] at e
        by_cases hi : i < ds.length
        · rw [List.getElem?_append_left (by simpa using hi), List.getElem?_map] at e
          cases z : ds[i]? with
          | none => rw [z] at e; cases e
          | some d => rw [z] at e; cases e; exact .inr (.inr ⟨i, d, rfl, rfl, z, hi⟩)
        · rw [List.getElem?_append_right (by simpa using hi), List.getElem?_replicate] at e
          split at e
          · cases e; exact .inr (.inl rfl)
          · cases e
    refine ⟨ok, by simp [L2.start, ra.len]; omega, fun i c' e => ?_, fun i j p c1 c2 e1 e2 p1 p2 _ _ => ?_⟩
    · have hl : i < (L2.start N (V.ref x :: us)).length := by
        obtain ⟨z, _⟩ := List.getElem?_eq_some_iff.mp e
        simp [L2.start, ra.len] at z ⊢
        omega
      rcases hat e with ⟨rfl, rfl⟩ | rfl | ⟨j, d, rfl, rfl, hd, hj⟩
      · exact ⟨some (.ref x), by simp [L2.start], C, dx, [], rfl, hx, mg, cl, (by intro f v e; cases e), .nil, n1, n2, n3⟩
      · exact ⟨_, List.getElem?_eq_getElem hl, trivial⟩
      · obtain ⟨v, hv, r⟩ := ra.get hd
        refine ⟨some v, ?_, v, rfl, r⟩
        unfold L2.start
        rw [List.map_cons, List.cons_append, List.getElem?_cons_succ, List.getElem?_append_left (by simpa [ra.len] using hj), List.getElem?_map, hv]
        rfl
    · rcases hat e1 with ⟨rfl, rfl⟩ | rfl | ⟨j, d, rfl, rfl, _⟩
      · rcases hat e2 with ⟨rfl, rfl⟩ | rfl | ⟨j, d, rfl, rfl, _⟩
        · rfl
        · cases p2
        · cases p2
      · cases p1
      · cases p1
  · obtain ⟨p, c2, fs, C', dx', vf, hi', hs, hp, m', cl', nat, r, nF, n0, nd, rfl, rfl, hP⟩ := S'.objAt h'
    have z : C' = C := by
      rw [mg] at m'
      injection m' with m'
      injection m' with m'
      exact m'.symm
    subst z
    exact q T' dx' vf fs S'.ok e' hp nF n0 nd nat r hP
@[simp] def wMake (c : Str) (W : WN) (dd : List D) (w : WA) : WE := fun ρ Q => w ρ fun as ρ1 => shN as fun ds => W (ds ++ dd) fun fs => Q (.obj c fs) ρ1
variable {CX : CXT} {k : Nat} {f C : Addr} {fd : FuncData} {ps : List Str} {W : WN} {E : XK} {x : Str} {p : Pos} {t : TA} {w : WA} {dv : List V} {ds : List Value} {dd : List D} {c : Str}
theorem se_make (hm : Γ.mg c = some (.ref C)) (hcl : Cls Γ.K C) (hd : ∀ H0 Hd, RA Γ H0 Hd dv dd) (ha : SA Γ t w) : SE Γ (tMake C (spN Γ c W) dv E t) (wMake c W dd w) := ⟨fun {T σ ρ Q Q'} S hw q => ha.h S hw fun vs T1 as ρ1 S1 e1 r1 q1 => by
  obtain ⟨ds, ra, q1⟩ := shN_of r1 q1
  intro x dx nx ndx ne
  have nxF := none_of_le S1.ok.sF nx
  have nx0 := none_of_le S1.ok.s0 nx
  have nxd := none_of_le S1.ok.sd nx
  have up : ∀ {b y}, T1.H b = some y → upd (upd T1.H dx (.own x)) x (.ins C dx []) b = some y := fun {b y} e => by
    rw [upd_ne (ne_of_none e nx), upd_ne (ne_of_none e ndx)]; exact e
  refine ⟨⟨frH T1.H0 T1.Hd T1.H, T1.H0, T1.Hd, upd (upd T1.H dx (.own x)) x (.ins C dx []), fun _ => False⟩, x, C, dx, vs ++ dv, ds ++ dd, _, rfl, rfl, ⟨fun b y e => up (frH_some e).2.2, fun b y e => up (S1.ok.s0 _ _ e), fun b y e => up (S1.ok.sd _ _ e), fun {b y} e => (frH_some e).1, fun {b y} e => (frH_some e).2.1, S1.ok.zd, frH_nt, S1.ok.dt⟩, upd_same, hm, hcl, ?_, nx0, nxd, ra.app (hd _ _), q1, ?_⟩
  · cases z : frH T1.H0 T1.Hd T1.H x with
    | none => exact z
    | some y => have := (frH_some z).2.2; rw [nx] at this; cases this
  intro T' dx' vf fs ok e hx' hF' h0' hd' nat rf hP
  have fF : ∀ {b y}, (∀ us, y ≠ .tup us) → T1.H b = some y → T1.H0 b = none → T1.Hd b = none → T'.F b = some y := fun {b y} nt e1 e2 e3 => by
    rw [e.f]
    show frH T1.H0 T1.Hd T1.H b = some y
    exact frH_yes e2 e3 e1 nt
  have Fo : ∀ {b y}, T1.F b = some y → T'.F b = some y := fun {b y} eF => fF (fun us z => S1.ok.ft (z ▸ eF)) (S1.ok.sF _ _ eF) (S1.ok.F0 eF) (S1.ok.Fd eF)
  have S' : Sv Γ ⟨T1.F, T'.H0, T'.Hd, T'.H, T1.P⟩ σ ρ1 := S1.after ⟨fun b y e => ok.sF _ _ (Fo e), ok.s0, ok.sd, fun {b y} e => ok.F0 (Fo e), fun {b y} e => ok.Fd (Fo e), ok.zd, S1.ok.ft, ok.dt⟩ e.s0 e.da fun p y nt h1 h2 h3 => ⟨ok.sF _ _ (fF nt h1 h2 h3), ok.F0 (fF nt h1 h2 h3), ok.Fd (fF nt h1 h2 h3)⟩
  obtain ⟨S2, E2⟩ := S'.freezeNew hx' nxF h0' hd' (fresh_priv S1 nx)
  have E1 : Ext Γ T1 ⟨T1.F, T'.H0, T'.Hd, T'.H, T1.P⟩ := ⟨rfl, rfl, e.s0, e.da⟩
  refine ⟨rfl, q (.ref x) ⟨T1.F, upd T'.H0 x (.ins C dx' vf), T'.Hd, T'.H, T1.P⟩ (.obj c fs) ρ1 S2 ((e1.trans E1).trans E2) ?_ hP⟩
  exact .obj upd_same hm hcl nat (rf.mono E2.s0 E2.da)⟩
theorem ve_make (hK : X.K = Γ.K) (hmg : Γ.mg c = some (.ref C)) (hcl : Cls Γ.K C) (M : Mk X.K C f) (F : FnOk X.prog X.w X.K X.mg X.base CX k f fd ps (spN Γ c W)) (hr : Room (k + 1) X.A) (hg : Gl X x) (hm : X.mg x = some (.ref C)) (hb : Binds X.K fd ps ds) (hdv : Vals dv ds) (hd : ∀ H0 Hd, RA Γ H0 Hd dv dd) (hx : Passes CX X E)
    (ha : VA Γ X (e :: es) t w) (hdb : (x == ("__debug__" : Str)) = false := by decide) (he : starEach (e :: es) X.env = (false, eval e X.env) :: starEach es X.env := by rfl) (hpl : (backTo pos (starEach es X.env)).any (·.1) = false := by rfl) :
    VE Γ X (.Call (.Name x p) (e :: es) [] pos) (tMake C (spN Γ c W) dv E t) (wMake c W dd w) := ⟨pe_make M F hr hg hm hb hdv hx ha.pe hdb he hpl, se_make hmg hcl hd ha.se⟩
end
end Vl


namespace Vl
open PySem PySem.Spec PyProof.Rows L2 Hl

/-! ### set(xs) of ints, sorted(set(xs)) -/
def insU (x : Int) : List Int → List Int
  | [] => [x]
  | y :: r => if x < y then x :: y :: r else if x = y then y :: r else y :: insU x r
def sortU : List Int → List Int
  | [] => []
  | x :: r => insU x (sortU r)
theorem insU_mem (x : Int) : ∀ (l : List Int) (z : Int), z ∈ insU x l ↔ z = x ∨ z ∈ l
  | [], z => by simp [insU]
  | y :: r, z => by
    unfold insU
    split
    · simp
    · split
      · rename_i e; subst e; simp
      · rw [List.mem_cons, insU_mem x r z, List.mem_cons]
        constructor
        · rintro (h | h | h)
          · exact .inr (.inl h)
          · exact .inl h
          · exact .inr (.inr h)
        · rintro (h | h | h)
          · exact .inr (.inl h)
          · exact .inl h
          · exact .inr (.inr h)
theorem sortU_mem : ∀ (l : List Int) (z : Int), z ∈ sortU l ↔ z ∈ l
  | [], z => by simp [sortU]
  | x :: r, z => by rw [sortU, insU_mem, sortU_mem r, List.mem_cons]
theorem insU_sorted (x : Int) : ∀ l : List Int, l.Pairwise (· < ·) → (insU x l).Pairwise (· < ·)
  | [], _ => by simp [insU]
  | y :: r, h => by
    unfold insU
    rw [List.pairwise_cons] at h
    split
    · rename_i hxy
      refine List.pairwise_cons.mpr ⟨fun z hz => ?_, List.pairwise_cons.mpr h⟩
      rcases List.mem_cons.mp hz with rfl | hz
      · exact hxy
      · exact Int.lt_trans hxy (h.1 z hz)
    · split
      · exact List.pairwise_cons.mpr h
      · refine List.pairwise_cons.mpr ⟨fun z hz => ?_, insU_sorted x r h.2⟩
        rcases (insU_mem x r z).mp hz with rfl | hz
        · omega
        · exact h.1 z hz
theorem sortU_sorted : ∀ l : List Int, (sortU l).Pairwise (· < ·)
  | [] => .nil
  | x :: r => insU_sorted x _ (sortU_sorted r)
theorem nodup_of_lt {l : List Int} (h : l.Pairwise (· < ·)) : l.Nodup := h.imp fun h => by omega
theorem lt_sorted_eq {l m : List Int} (h1 : l.Pairwise (· < ·)) (h2 : m.Pairwise (· < ·)) (h : ∀ z, z ∈ l ↔ z ∈ m) : l = m := by
  refine perm_sorted_eq ?_ (h1.imp fun h => Int.le_of_lt h) (h2.imp fun h => Int.le_of_lt h)
  exact (List.perm_ext_iff_of_nodup (nodup_of_lt h1) (nodup_of_lt h2)).mpr h
def rSortedSet' (w : World) : List V → Hp → VK → Prop := fun vs H Q => ∃ (a : Addr) (S : Int → Bool) (n : Nat), vs = [V.ref a] ∧ H a = some (SetO w a S n) ∧ (∀ m : List Int, m.Nodup → (∀ k, S k = true ↔ k ∈ m) → m.length < 64) ∧
  ∀ (ns : List Int) (p : Addr), ns.Pairwise (· < ·) → (∀ k : Int, k ∈ ns ↔ S k = true) → H p = none → Q (.ref p) (upd H p (.lst (ns.map V.int)))
theorem cr_sortedSet' {X : Cx} (hc : X.calm = true) : CallR X (.builtin "sorted") (rSortedSet' X.w) := by
  intro pins s σ H vs us Q I r h
  obtain ⟨a, S, n, rfl, ha, h64, q⟩ := h
  obtain ⟨o, es, ep, t, ho, ex, hd, hg, hnd, hm, hb, hf, hn, hr⟩ := setO_get I ha
  refine cr_sortedSet hc pins s σ H _ us Q I r ⟨a, S, n, rfl, ha, ?_, fun ns p h1 h2 _ h4 => q ns p h1 h2 h4⟩
  have := h64 _ hnd hm
  rw [List.length_map, Array.length_toList, hn] at this
  exact this
/-- set(xs), fewer than 4096 ints -/
def rSetI' (K : PySem.W.Frag) (w : World) : List V → Hp → VK → Prop := fun vs H Q => ∃ (a : Addr) (ns : List Int), vs = [V.ref a] ∧ (SqT K H a (ns.map V.int) ∨ SqL K H a (ns.map V.int)) ∧ ns.length + 1 < 4096 ∧
  ∀ (p : Addr) (c : Nat), H p = none → Q (.ref p) (upd H p (SetO w p (fun j => decide (j ∈ ns)) c))
theorem cr_setTI' {X : Cx} (hc : X.calm = true) : CallR X (.type "set") (rSetI' X.K X.w) := by
  intro pins s σ H vs us Q I r h
  obtain ⟨a, ns, rfl, hs, hn, q⟩ := h
  rw [Vals.ref1 r]
  have hf := I.hok.fresh (Nat.le_refl _)
  rcases hs with hs | hs
  · obtain ⟨its, rv, hl, hz⟩ := I.tuple hs
    refine call_set_tupI ns (I.ok.hd hc) (show s.heap.IsTuple a its.toArray from hl) (ints_of_vals rv) (by unfold scanBound; omega) fun h' tk c R hcn k => ?_
    exact ⟨.ref _, upd H s.heap.objs.size (SetO X.w s.heap.objs.size (fun j => decide (j ∈ ns)) c), I.laid (t' := tk) k (Nat.le_refl _) (setO_new R), rfl, q _ c hf⟩
  · obtain ⟨its, rv, hl, hz⟩ := I.list hs
    refine call_set_lstI ns (I.ok.hd hc) hl.isList (ints_of_vals rv) (by unfold scanBound; omega) fun h' tk c R hcn k => ?_
    exact ⟨.ref _, upd H s.heap.objs.size (SetO X.w s.heap.objs.size (fun j => decide (j ∈ ns)) c), I.laid (t' := tk) k (Nat.le_refl _) (setO_new R), rfl, q _ c hf⟩
section
variable {Γ : Gx}
@[simp] def gSet : GN
  | [.lst l], k => oK (intsO l) fun ns => ns.length + 1 < 4096 ∧ k (.set ns)
  | [.tup l], k => oK (intsO l) fun ns => ns.length + 1 < 4096 ∧ k (.set ns)
  | _, _ => False
theorem kcr_set {X : Cx} {K : PySem.W.Frag} {w : World} (h : X.K = K) (h' : X.w = w) (hc : X.calm = true) : CallR X (.type "set") (rSetI' K w) := by subst h h'; exact cr_setTI' hc
theorem cs_set : CS Γ (rSetI' Γ.K Γ.w) gSet := ⟨fun {T xs as Q Q'} ok r h q => by
  unfold gSet at h
  split at h
  · obtain ⟨v, rfl, r'⟩ := r.one
    obtain ⟨ns, e, hn, h'⟩ := oK_of h
    cases intsO_eq e
    obtain ⟨p, vs, rfl, hp, rp⟩ := r'.lst ok
    cases rp.ints
    exact ⟨p, ns, rfl, .inr (SqL.of hp), hn, fun a c n => gr_new ok q n (.set upd_same) h'⟩
  · obtain ⟨v, rfl, r'⟩ := r.one
    obtain ⟨ns, e, hn, h'⟩ := oK_of h
    cases intsO_eq e
    obtain ⟨p, vs, rfl, hp, rp⟩ := r'.tup ok
    cases rp.ints
    exact ⟨p, ns, rfl, .inl hp, hn, fun a c n => gr_new ok q n (.set upd_same) h'⟩
  · exact h.elim⟩
abbrev rSortedP3 (K : PySem.W.Frag) (w : World) : List V → Hp → VK → Prop := fun xs H Q => rSortedP2 K xs H Q ∨ rSortedSet' w xs H Q
theorem cr_sortedP3 {X : Cx} {K : PySem.W.Frag} {w : World} (h : X.K = K) (h' : X.w = w) (hc : X.calm = true) : CallR X (.builtin "sorted") (rSortedP3 K w) := by subst h'; exact cr_or (cr_sortedP2 h) (cr_sortedSet' hc)
@[simp] def fSortedP : FN
  | [.lst l], k => oK (intsO l) fun ns => k ((sortI ns).map D.int)
  | [.tup l], k => oK (intsO l) fun ns => k ((sortI ns).map D.int)
  | [.set ns], k => (sortU ns).length < 64 ∧ k ((sortU ns).map D.int)
  | _, _ => False
theorem csf_sortedP : CSF Γ (rSortedP3 Γ.K Γ.w) fSortedP := ⟨fun {T xs as Q Q'} ok r h q => by
  unfold fSortedP at h
  split at h
  · exact .inl (csf_sorted.h ok r h q)
  · exact .inl (csf_sorted.h ok r h q)
  · rename_i k ns
    obtain ⟨v, rfl, r'⟩ := r.one
    cases r' with
    | sh r' =>
      cases r' with
      | set hs =>
        refine .inr ⟨_, _, _, rfl, ok.s0 _ _ hs, fun m h1 h2 => ?_, fun ms p h1 h2 n => ?_⟩
        · have e : m.Perm (sortU ns) := (List.perm_ext_iff_of_nodup h1 (nodup_of_lt (sortU_sorted ns))).mpr fun z => by rw [← h2 z, sortU_mem, decide_eq_true_eq]
          rw [e.length_eq]; exact h.1
        · rw [lt_sorted_eq h1 (sortU_sorted ns) fun z => by rw [h2 z, sortU_mem, decide_eq_true_eq]]
          exact q p _ _ n (ra_ints _) h.2
  · exact h.elim⟩
end
end Vl

namespace Vl
open PySem PySem.Spec PyProof.Rows L2 Hl

/-! ### a source of draws: [[great cells], stir] -/
def Frm (w q : Addr) (H H' : Hp) : Prop := ∀ a o, a ≠ w → a ≠ q → H a = some o → H' a = some o
def HeapAt (H : Hp) (w q : Addr) : Prop := ∃ (cs : List Int) (st : Int), H w = some (.lst [.ref q, .int st]) ∧ H q = some (.lst (cs.map V.int)) ∧ (∀ c ∈ cs, 0 ≤ c) ∧ cs.length ≤ 63 ∧ 0 ≤ st ∧ st < 2147483647
theorem Frm.refl (w q : Addr) (H : Hp) : Frm w q H H := fun _ _ _ _ h => h
theorem Frm.trans {w q : Addr} {H H' H'' : Hp} (a : Frm w q H H') (b : Frm w q H' H'') : Frm w q H H'' := fun x o h1 h2 h => b x o h1 h2 (a x o h1 h2 h)
theorem Frm.same {w q : Addr} {H H' : Hp} (e : Same H H') : Frm w q H H' := fun x o _ _ h => e x o h
theorem Frm.w {w q : Addr} {H H' : Hp} {o : HO} (e : Frm w q H H') : Frm w q H (upd H' w o) := fun x u h1 h2 h => by rw [upd_ne h1]; exact e x u h1 h2 h
theorem Frm.q {w q : Addr} {H H' : Hp} {o : HO} (e : Frm w q H H') : Frm w q H (upd H' q o) := fun x u h1 h2 h => by rw [upd_ne h2]; exact e x u h1 h2 h
theorem HeapAt.same {H H' : Hp} {w q : Addr} (e : Same H H') (h : HeapAt H w q) : HeapAt H' w q := by
  obtain ⟨cs, st, h1, h2, h3⟩ := h
  exact ⟨cs, st, e _ _ h1, e _ _ h2, h3⟩
def DAh (H : Hp) (w : Addr) : Prop := ∃ q, HeapAt H w q
/-- the surroundings of a law: the text and its draws -/
def gxOf (K : PySem.W.Frag) (w : World) (mg : Str → Option Value) : Gx := ⟨K, w, mg, DAh, fun e ⟨q, h⟩ => ⟨q, h.same e⟩⟩
def sp_draw : Sp := fun vs H Q _ => ∃ (w q : Addr) (many : Int), vs = [.ref w, .int many] ∧ HeapAt H w q ∧ 0 < many ∧ many < 1073741824 ∧ ∀ r H', 0 ≤ r → r < many → Frm w q H H' → HeapAt H' w q → Q (.int r) H'
def sp_heap (K : PySem.W.Frag) : Sp := fun vs H Q _ => ∃ (a : Addr) (ns : List Int), vs = [.ref a] ∧ SqL K H a (ns.map V.int) ∧ ns.length ≤ 63 ∧ ∀ p q H', H p = none → H q = none → Same H H' → HeapAt H' p q → Q (.ref p) H'
/-- a draw's meaning: any number below many -/
def W_draw : WF1 := fun ds Q => ∃ many : Int, ds = [.hnd, .int many] ∧ 0 < many ∧ many < 1073741824 ∧ ∀ r : Int, 0 ≤ r → r < many → Q (.int r)
def W_heap : WF1 := fun ds Q => ∃ ns : List Int, ds = [.scr ns] ∧ ns.length ≤ 63 ∧ Q .hnd
theorem heap_nr {H : Hp} {w q a q' : Addr} (h : HeapAt H w q) (h' : HeapAt H a q') : a ≠ q := by
  rintro rfl
  obtain ⟨cs, st, h1, h2, _⟩ := h
  obtain ⟨cs', st', h3, _⟩ := h'
  rw [h2] at h3
  injection h3 with h3
  injection h3 with h3
  cases cs with
  | nil => cases h3
  | cons c r => rw [List.map_cons] at h3; injection h3 with h3 _; cases h3
theorem draw_imp {K : PySem.W.Frag} {w : World} {mg : Str → Option Value} {vs : List V} {H : Hp} {Q : VK} {E : XK} (h : spV (gxOf K w mg) W_draw vs H Q E) : sp_draw vs H Q E := by
  obtain ⟨T, ds, P, rfl, ok, ra, ⟨many, rfl, m0, m1, hP⟩, q⟩ := h
  match vs, ra with
  | [v, u], .cons r1 (.cons r2 .nil) =>
    cases r2
    cases r1 with
    | hnd h =>
      rename_i a
      obtain ⟨p, hp⟩ := h
      refine ⟨a, p, many, rfl, hp.same ok.sd, m0, m1, fun r H' h0 h1 fr hh => ?_⟩
      have ha : ∃ o, T.Hd a = some o := ⟨_, hp.choose_spec.choose_spec.1⟩
      have hb : ∃ o, T.Hd p = some o := ⟨_, hp.choose_spec.choose_spec.2.1⟩
      have nof : ∀ {A : Hp} {b x}, (∀ {b x}, A b = some x → T.Hd b = none) → A b = some x → b ≠ a ∧ b ≠ p := fun {A b x} hA e => by
        refine ⟨fun z => ?_, fun z => ?_⟩
        · obtain ⟨o, e'⟩ := ha; rw [z] at e; rw [hA e] at e'; cases e'
        · obtain ⟨o, e'⟩ := hb; rw [z] at e; rw [hA e] at e'; cases e'
      have nF := fun {b x} (e : T.F b = some x) => nof (A := T.F) (fun e => ok.Fd e) e
      have n0 := fun {b x} (e : T.H0 b = some x) => nof (A := T.H0) (fun e => ok.zd e) e
      let Hn : Hp := fun b => if b = a ∨ b = p then H' b else T.Hd b
      have ny : ∀ {b}, b = a ∨ b = p → Hn b = H' b := fun h => if_pos h
      have nn : ∀ {b}, ¬ (b = a ∨ b = p) → Hn b = T.Hd b := fun h => if_neg h
      refine q (.int r) ⟨T.F, T.H0, Hn, H', T.P⟩ (.int r) ⟨fun b x e => fr b x (nF e).1 (nF e).2 (ok.sF _ _ e), fun b x e => fr b x (n0 e).1 (n0 e).2 (ok.s0 _ _ e), fun b x e => ?_, ok.F0, fun {b x} e => ?_, fun {b x} e => ?_, ok.ft, fun {b us} e => ?_⟩ ⟨rfl, rfl, Same.refl _, fun c hc => ?_⟩ (.int r) (hP r h0 h1)
      · dsimp only at e
        by_cases hz : b = a ∨ b = p
        · rw [ny hz] at e; exact e
        · rw [nn hz] at e
          rw [not_or] at hz
          exact fr b x hz.1 hz.2 (ok.sd _ _ e)
      · have z := nF e
        show Hn b = none
        rw [nn (by rw [not_or]; exact z)]; exact ok.Fd e
      · have z := n0 e
        show Hn b = none
        rw [nn (by rw [not_or]; exact z)]; exact ok.zd e
      · dsimp only at e
        obtain ⟨cs', st', k1, k2, _⟩ := hh
        by_cases hz : b = a ∨ b = p
        · rw [ny hz] at e
          rcases hz with rfl | rfl
          · rw [k1] at e; cases e
          · rw [k2] at e; cases e
        · rw [nn hz] at e; exact ok.dt e
      · obtain ⟨q', cs, st, h1, h2, h3⟩ := hc
        by_cases hca : c = a
        · subst hca
          obtain ⟨cs', st', k1, k2, k3⟩ := hh
          exact ⟨p, cs', st', by dsimp only; rw [ny (.inl rfl)]; exact k1, by dsimp only; rw [ny (.inr rfl)]; exact k2, k3⟩
        · have hcp : c ≠ p := heap_nr hp ⟨cs, st, h1, h2, h3⟩
          have e1 : Hn c = T.Hd c := nn (by rw [not_or]; exact ⟨hca, hcp⟩)
          by_cases hq : q' = p
          · subst hq
            obtain ⟨cs', st', k1, k2, k3, k4, k5⟩ := hh
            exact ⟨q', cs', st, by dsimp only; rw [e1]; exact h1, by dsimp only; rw [ny (.inr rfl)]; exact k2, k3, k4, h3.2.2⟩
          · have hqa : q' ≠ a := fun z => heap_nr (a := a) (q' := p) ⟨cs, st, h1, h2, h3⟩ hp z.symm
            exact ⟨q', cs, st, by dsimp only; rw [e1]; exact h1, by dsimp only; rw [nn (by rw [not_or]; exact ⟨hqa, hq⟩)]; exact h2, h3⟩
theorem heap_imp {K : PySem.W.Frag} {w : World} {mg : Str → Option Value} {vs : List V} {H : Hp} {Q : VK} {E : XK} (h : spV (gxOf K w mg) W_heap vs H Q E) : sp_heap K vs H Q E := by
  obtain ⟨T, ds, P, rfl, ok, ra, ⟨ns, rfl, hl, hP⟩, q⟩ := h
  match vs, ra with
  | [v], .cons r1 .nil =>
    cases r1 with
    | scr hs =>
      rename_i a
      refine ⟨a, ns, rfl, ok.s0.seq hs, hl, fun p r H' np nr sm hh => ?_⟩
      let Hn : Hp := fun b => if b = p ∨ b = r then H' b else T.Hd b
      have ny : ∀ {b}, b = p ∨ b = r → Hn b = H' b := fun h => if_pos h
      have nn : ∀ {b}, ¬ (b = p ∨ b = r) → Hn b = T.Hd b := fun h => if_neg h
      have nw : ∀ {b x}, T.H b = some x → ¬ (b = p ∨ b = r) := fun {b x} e z => by
        rcases z with rfl | rfl
        · rw [np] at e; cases e
        · rw [nr] at e; cases e
      refine q (.ref p) ⟨T.F, T.H0, Hn, H', T.P⟩ .hnd ⟨fun b x e => sm _ _ (ok.sF _ _ e), fun b x e => sm _ _ (ok.s0 _ _ e), fun b x e => ?_, ok.F0, fun {b x} e => ?_, fun {b x} e => ?_, ok.ft, fun {b us} e => ?_⟩ ⟨rfl, rfl, Same.refl _, fun c hc => ?_⟩ (.hnd ⟨r, ?_⟩) hP
      · dsimp only at e
        by_cases hz : b = p ∨ b = r
        · rw [ny hz] at e; exact e
        · rw [nn hz] at e; exact sm _ _ (ok.sd _ _ e)
      · show Hn b = none
        rw [nn (nw (ok.sF _ _ e))]; exact ok.Fd e
      · show Hn b = none
        rw [nn (nw (ok.s0 _ _ e))]; exact ok.zd e
      · dsimp only at e
        obtain ⟨cs', st', k1, k2, _⟩ := hh
        by_cases hz : b = p ∨ b = r
        · rw [ny hz] at e
          rcases hz with rfl | rfl
          · rw [k1] at e; cases e
          · rw [k2] at e; cases e
        · rw [nn hz] at e; exact ok.dt e
      · obtain ⟨q', cs, st, h1, h2, h3⟩ := hc
        exact ⟨q', cs, st, by dsimp only; rw [nn (nw (ok.sd _ _ h1))]; exact h1, by dsimp only; rw [nn (nw (ok.sd _ _ h2))]; exact h2, h3⟩
      · obtain ⟨cs, st, h1, h2, h3⟩ := hh
        exact ⟨cs, st, by dsimp only; rw [ny (.inl rfl)]; exact h1, by dsimp only; rw [ny (.inr rfl)]; exact h2, h3⟩
/-- the law's own promise -/
def sp_law (K : PySem.W.Frag) : Sp := fun vs H Q _ => ∃ (a : Addr) (ns : List Int), vs = [.ref a] ∧ SqL K H a (ns.map V.int) ∧ ns.length ≤ 63 ∧ ∀ H', Q (.bl true) H'
theorem law_imp {K : PySem.W.Frag} {w : World} {mg : Str → Option Value} {W : WF1} (hW : ∀ ns : List Int, ns.length ≤ 63 → W [.scr ns] fun d => d = .bl true) {vs : List V} {H : Hp} {Q : VK} {E : XK} (h : sp_law K vs H Q E) : spV (gxOf K w mg) W vs H Q E := by
  obtain ⟨a, ns, rfl, hs, hl, q⟩ := h
  refine ⟨⟨fun _ => none, H, fun _ => none, H, fun _ => False⟩, [.scr ns], _, rfl, ⟨(by intro b x e; cases e), Same.refl _, (by intro b x e; cases e), (by intro b x e; cases e), (by intro b x e; cases e), fun _ => rfl, (by intro b x e; cases e), (by intro b x e; cases e)⟩, .cons (.scr hs) .nil, hW ns hl, ?_⟩
  rintro v T' d ok e r rfl
  cases r
  exact q _
/-! ### def f(a, *others) -/
@[simp] def starW (n : Nat) (W : WF1) : WF1 := fun ds Q => (n ≤ ds.length ∧ ds.length ≤ sizeLine) ∧ W (ds.take n ++ [.tup (ds.drop n)]) Q
theorem star_imp {Γ : Gx} {W : WF1} {n : Nat} {vs : List V} {H : Hp} {Q : VK} {E : XK} (h : spV Γ (starW n W) vs H Q E) : ∃ ws rest, vs = ws ++ rest ∧ ws.length = n ∧ rest.length ≤ sizeLine ∧ ∀ p, H p = Option.none → spV Γ W (ws ++ [V.ref p]) (upd H p (.tup rest)) Q E := by
  obtain ⟨T, ds, P, rfl, ok, ra, ⟨⟨h1, h2⟩, hW⟩, q⟩ := h
  refine ⟨vs.take n, vs.drop n, (List.take_append_drop n vs).symm, by rw [List.length_take, ra.len]; omega, by rw [List.length_drop, ra.len]; omega, fun p np => ?_⟩
  have g := Gr.new (o := .tup (vs.drop n)) ok np
  refine ⟨_, ds.take n ++ [.tup (ds.drop n)], P, rfl, g.ok, ?_, hW, fun v T' d ok' e' r' hP => q v T' d ok' (g.ext.trans e') r' hP⟩
  exact ((ra.take n).ext g.ext (T := T)).app (.cons (r_tup ok np (ra.drop n)) .nil)
section
variable {Γ : Gx} {X : Cx} {CX : CXT} {k : Nat} {f : Addr} {W : WF1} {E : XK} {x : Str} {p pos : Pos} {e : Expr} {es : List Expr} {t : TA} {w : WA}
theorem se_callR (ha : SA Γ t w) : SE Γ (fun σ H Q => t σ H fun vs H1 => spV Γ W vs H1 Q E) (wCall W [] w) := ⟨fun {T σ ρ Q Q'} S hw q => ha.h S hw fun vs T1 as ρ1 S1 e1 r1 q1 => by
  have z := S1.call (dv := []) (E := E) r1 (fun _ _ => .nil) q1 fun v T2 d S2 e2 r2 q2 => q v T2 d ρ1 S2 (e1.trans e2) r2 q2
  rwa [List.append_nil] at z⟩
end
end Vl

namespace Vl
open PySem PySem.Spec PyProof.Rows L2 Hl

section
variable {Γ : Gx} {X : Cx} {T : Wo} {σ : L2.St} {ρ : Vn}
/-! ### the operators by their names -/
abbrev gSub : G2 := gI fun i j => i - j
abbrev gMod : G2 := gIc (fun _ j => 0 < j) fun i j => i % j
abbrev gDiv : G2 := gIc CDivW fun i j => i / j
abbrev gPow : G2 := gIc CPow fun i j => i ^ j.toNat
abbrev gLt : G2 := gB fun i j => decide (i < j)
abbrev gLe : G2 := gB fun i j => decide (i ≤ j)
abbrev gGt : G2 := gB fun i j => decide (j < i)
abbrev gGe : G2 := gB fun i j => decide (j ≤ i)
theorem os_sub : OS Γ (rI0 fun i j => .int (i - j)) gSub := os_I
theorem os_mod : OS Γ (rI (fun _ j => 0 < j) fun i j => .int (i % j)) gMod := os_Ic
theorem os_div : OS Γ (rI CDivW fun i j => .int (i / j)) gDiv := os_Ic
theorem os_pow : OS Γ (rI CPow fun i j => .int (i ^ j.toNat)) gPow := os_Ic
theorem os_lt : OS Γ (rI0 fun i j => .bl (decide (i < j))) gLt := os_B
theorem os_le : OS Γ (rI0 fun i j => .bl (decide (i ≤ j))) gLe := os_B
theorem os_gt : OS Γ (rI0 fun i j => .bl (decide (j < i))) gGt := os_B
theorem os_ge : OS Γ (rI0 fun i j => .bl (decide (j ≤ i))) gGe := os_B
@[simp] def gNotB : G2
  | .bl a, .bl b, k => k (.bl (!decide (a = b)))
  | _, _, _ => False
theorem os_notB : OS Γ rNotB gNotB := ⟨fun {T x y a b Q Q'} ok rx ry h q => by
  cases a <;> cases b <;> first | exact h.elim | skip
  exact ⟨_, _, rx.bl, ry.bl, gr_sc ok q (.bl _) h⟩⟩
/-! ### and, or -/
section
variable {a b e : Expr} {rest : List Expr} {ta tb : TE} {wa wb : WE} {t u : TT} {w z : WT} {op : BoolOp} {pos : Pos}
theorem ve_one (h : VE Γ X a ta wa) : VE Γ X (.BoolOp op [a] pos) ta wa := ⟨pe_one h.pe, h.se⟩
theorem ve_and (ha : VE Γ X a ta wa) (hb : VE Γ X (.BoolOp .And (b :: rest) pos) tb wb) : VE Γ X (.BoolOp .And (a :: b :: rest) pos) (tAndV ta tb) (wAndV wa wb) := ⟨pe_and ha.pe hb.pe, se_andV ha.se hb.se⟩
theorem ve_or (ha : VE Γ X a ta wa) (hb : VE Γ X (.BoolOp .Or (b :: rest) pos) tb wb) : VE Γ X (.BoolOp .Or (a :: b :: rest) pos) (tOrV ta tb) (wOrV wa wb) := ⟨pe_or ha.pe hb.pe, se_orV ha.se hb.se⟩
theorem vw_and1 (h : VT Γ X a t w) : VW Γ X (.BoolOp .And [a] pos) t w := ⟨pw_and1 h.pe, h.se⟩
theorem vw_or1 (h : VT Γ X a t w) : VW Γ X (.BoolOp .Or [a] pos) t w := ⟨pw_or1 h.pe, h.se⟩
theorem vw_and (h : VT Γ X a t w) (h' : VW Γ X (.BoolOp .And (b :: rest) pos) u z) : VW Γ X (.BoolOp .And (a :: b :: rest) pos) (tAnd t u) (wAnd w z) := ⟨pw_and h.pe h'.pe, st_and h.se h'.se⟩
theorem vw_or (h : VT Γ X a t w) (h' : VW Γ X (.BoolOp .Or (b :: rest) pos) u z) : VW Γ X (.BoolOp .Or (a :: b :: rest) pos) (tOr t u) (wOr w z) := ⟨pw_or h.pe h'.pe, st_or h.se h'.se⟩
end
/-! ### statements with names -/
section
variable {e : Expr} {te : TE} {we : WE} {pos tpos : Pos} {i j : Nat} {x y : Str}
theorem vs_aug {f : Int → Int → Int} {op : Operator} (hip : PIp X op (ipI f)) (hN : X.N.Nodup) (hi : X.N[i]? = some x) (hx : Loc X.env.scope x) (h : VE Γ X e te we) (hp : PS X (.AugAssign (.Name x tpos) op e pos) (tAug i te (ipI f))) : VS Γ X (.AugAssign (.Name x tpos) op e pos) (tAug i te (ipI f)) (wAug i f we) := ⟨hp, ss_aug h.se⟩
variable {a b : Expr} {ta : TA} {wa : WA} {px py pt : Pos} {kt k2 : Nat} {pt2 : Pos}
theorem vs_mk {st : Stmt} {t : TS} {w : WS} (h : PS X st t) (h' : SS Γ t w) : VS Γ X st t w := ⟨h, h'⟩
end
/-! ### a def with *others, called plainly -/
section
variable {CX : CXT} {k : Nat} {f : Addr} {W : WF1} {E : XK} {x : Str} {p pos : Pos} {e : Expr} {es : List Expr} {t : TA} {w : WA}
theorem pe_callRp {sp : Sp} (F : FnR X.prog X.w X.K X.mg X.base CX k f sp) (hr : Room k X.A) (hg : Gl X x) (hm : X.mg x = some (.ref f)) (hk : PySem.W.keepIn X.K (.ref f) = true) (hx : Passes CX X E)
    (ha : PA X (e :: es) t) (hdb : (x == ("__debug__" : Str)) = false := by decide) (he : starEach (e :: es) X.env = (false, eval e X.env) :: starEach es X.env := by rfl) (hpl : (backTo pos (starEach es X.env)).any (·.1) = false := by rfl) :
    PE X (.Call (.Name x p) (e :: es) [] pos) (fun σ H Q => t σ H fun vs H1 => sp vs H1 Q E) := by
  refine ⟨fun pins s σ H Q I h => ?_⟩
  refine wpAny_Call_Name_kw (ld_glob I hg hm ?_ hdb)
  refine PySem.W.callWith_K (h₀ := X.base) I.ok.mod.kin hk (thn (ha.run pos pins s σ H _ I h) fun us s1 ⟨vs, H1, I1, r, q⟩ => ⟨I1.kIn, ?_⟩) he hpl
  exact wpAny_call (run_fnR F hr hx I1 r q)
theorem ve_callR (F : FnR X.prog X.w X.K X.mg X.base CX k f (spV Γ W)) (hr : Room k X.A) (hg : Gl X x) (hm : X.mg x = some (.ref f)) (hk : PySem.W.keepIn X.K (.ref f) = true) (hx : Passes CX X E)
    (ha : VA Γ X (e :: es) t w) (hdb : (x == ("__debug__" : Str)) = false := by decide) (he : starEach (e :: es) X.env = (false, eval e X.env) :: starEach es X.env := by rfl) (hpl : (backTo pos (starEach es X.env)).any (·.1) = false := by rfl) :
    VE Γ X (.Call (.Name x p) (e :: es) [] pos) (fun σ H Q => t σ H fun vs H1 => spV Γ W vs H1 Q E) (wCall W [] w) := ⟨pe_callRp F hr hg hm hk hx ha.pe hdb he hpl, se_callR ha.se⟩
end
/-! ### zip -/
def zipD : List D → List D → List D
  | a :: l, b :: m => .tup [a, b] :: zipD l m
  | _, _ => []
theorem zipD_at : ∀ {l m : List D} {i : Nat} {d : D}, (zipD l m)[i]? = some d → ∃ a b, d = .tup [a, b] ∧ l[i]? = some a ∧ m[i]? = some b
  | a :: l, b :: m, 0, d, h => by simp [zipD] at h; exact ⟨a, b, h.symm, rfl, rfl⟩
  | a :: l, b :: m, i + 1, d, h => by simp [zipD] at h; simpa using zipD_at h
  | [], _, _, _, h => by simp [zipD] at h
  | _ :: _, [], _, _, h => by simp [zipD] at h
theorem zipD_length : ∀ {l m : List D}, (zipD l m).length = min l.length m.length
  | a :: l, b :: m => by simp only [zipD, List.length_cons, zipD_length (l := l) (m := m)]; omega
  | [], m => by simp [zipD]
  | _ :: _, [] => by simp [zipD]
theorem kpi_zipA {e e2 : Expr} {ta : TA} {K : PySem.W.Frag} {p pos tpos : Pos} {elts : List Expr} {kk : Nat} (hK : X.K = K) (hg : Gl X "zip") (hm : X.mg "zip" = none) (ha : PA X [e, e2] ta)
    (hs : starEach [e, e2] X.env = (false, eval e X.env) :: starEach [e2] X.env := by rfl) (hs2 : (backTo pos (starEach [e2] X.env)).any (·.1) = false := by rfl) : PI X (.Tuple elts kk tpos) (.Call (.Name "zip" p) [e, e2] [] pos) (RZ.iZipA K ta) := by subst hK; exact RZ.pi_zipA hg hm ha hs hs2
@[simp] def wZip (w : WA) : WI := fun ρ Q => w ρ fun as ρ1 => match as with
  | [a, b] => rsW ρ1 a fun d => rsW ρ1 b fun d' => match d, d' with
    | .lst l, .lst m => Q (zipD l m) ρ1
    | .tup l, .tup m => Q (zipD l m) ρ1
    | _, _ => False
  | _ => False
theorem its_zip {vs us : List V} {ds es : List D} {J : It} (r : RA Γ T.H0 T.Hd vs ds) (r' : RA Γ T.H0 T.Hd us es) (hg : ∀ T', Lat Γ T T' → ∀ i x y, vs[i]? = some x → us[i]? = some y → J.go i T'.H) (hst : ∀ T', Lat Γ T T' → ∀ i, vs.length ≤ i ∨ us.length ≤ i → J.stop i T'.H)
    (hy : ∀ T', Lat Γ T T' → ∀ i x H', J.yld i T'.H x H' → ∃ t y z, x = .ref t ∧ T'.H t = none ∧ H' = upd T'.H t (.tup [y, z]) ∧ vs[i]? = some y ∧ us[i]? = some z) : Its Γ T J (zipD ds es) := by
  refine ⟨fun T' l i hi => ?_, fun T' l => hst T' l _ ?_, fun T' l i d x H' hd hyl => ?_⟩
  · rw [zipD_length] at hi
    obtain ⟨x, hx⟩ := lt_at (i := i) r (by omega)
    obtain ⟨y, hy⟩ := lt_at (i := i) r' (by omega)
    exact hg T' l i x y hx hy
  · rw [zipD_length, r.len, r'.len]; omega
  · obtain ⟨t, y, z, rfl, n, rfl, h1, h2⟩ := hy T' l i x H' hyl
    obtain ⟨a, b, rfl, ha, hb⟩ := zipD_at hd
    obtain ⟨a', ha', ra⟩ := (l.ext r).get' h1
    obtain ⟨b', hb', rb⟩ := (l.ext r').get' h2
    rw [ha] at ha'; cases ha'
    rw [hb] at hb'; cases hb'
    exact ⟨_, Gr.new (o := .tup [y, z]) l.ok n, rfl, r_tup l.ok n (.cons ra (.cons rb .nil))⟩
theorem std_lst {v : V} {l : List D} (h : Std Γ T v (.lst l)) : ∃ p vs, v = .ref p ∧ (∀ T', Lat Γ T T' → SqL Γ.K T'.H p vs) ∧ RA Γ T.H0 T.Hd vs l := by
  cases h with
  | sh r =>
    cases r with
    | lst hp ra => exact ⟨_, _, rfl, fun T' l => SqL.of (l.ok.s0 _ _ (l.s0 _ _ hp)), ra⟩
  | pi hp ra => exact ⟨_, _, rfl, fun T' l => SqL.of (l.ok.sF _ _ (l.f _ _ hp)), ra⟩
theorem std_tup {v : V} {l : List D} (h : Std Γ T v (.tup l)) : ∃ p vs, v = .ref p ∧ (∀ T', Lat Γ T T' → SqT Γ.K T'.H p vs) ∧ RA Γ T.H0 T.Hd vs l := by
  cases h with
  | sh r =>
    cases r with
    | tup hp ra => exact ⟨_, _, rfl, fun T' l => tT l.ok.s0 (l.s0 _ _ hp), ra⟩
theorem Lat.refl (S : T.Ok) : Lat Γ T T := ⟨S, Same.refl _, Same.refl _, fun _ h => h⟩
theorem si_zip {t : TA} {w : WA} (h : SA Γ t w) : SI Γ (RZ.iZipA Γ.K t) (wZip w) := ⟨fun {T σ ρ Q Q'} S hw q => h.h S hw fun vs T1 as ρ1 S1 e1 r1 q1 => by
  match as, r1, q1 with
  | [a, b], .cons ra (.cons rb .nil), q1 =>
    obtain ⟨d, rd, q1⟩ := S1.rsW ra q1
    obtain ⟨d', rd', q1⟩ := S1.rsW rb q1
    cases d <;> cases d' <;> first | exact q1.elim | skip
    · obtain ⟨p, xs, rfl, hp, rp⟩ := std_tup rd
      obtain ⟨p', ys, rfl, hp', rp'⟩ := std_tup rd'
      have l0 := Lat.refl (Γ := Γ) S1.ok
      refine ⟨p, p', xs, ys, rfl, .inr ⟨hp _ l0, hp' _ l0, q _ T1 _ ρ1 S1 e1 (its_zip rp rp' ?_ ?_ ?_) q1⟩⟩
      · exact fun T' l i x y hx hy => ⟨_, _, x, y, hp T' l, hp' T' l, hx, hy⟩
      · exact fun T' l i h => ⟨_, _, hp T' l, hp' T' l, h⟩
      · rintro T' l i x H' ⟨t, y, z, rfl, n, rfl, h1, h2⟩
        exact ⟨t, y, z, rfl, n, rfl, h1 _ (hp T' l), h2 _ (hp' T' l)⟩
    · obtain ⟨p, xs, rfl, hp, rp⟩ := std_lst rd
      obtain ⟨p', ys, rfl, hp', rp'⟩ := std_lst rd'
      have l0 := Lat.refl (Γ := Γ) S1.ok
      refine ⟨p, p', xs, ys, rfl, .inl ⟨hp _ l0, hp' _ l0, q _ T1 _ ρ1 S1 e1 (its_zip rp rp' ?_ ?_ ?_) q1⟩⟩
      · exact fun T' l i x y hx hy => ⟨_, _, x, y, hp T' l, hp' T' l, hx, hy⟩
      · exact fun T' l i h => ⟨_, _, hp T' l, hp' T' l, h⟩
      · rintro T' l i x H' ⟨t, y, z, rfl, n, rfl, h1, h2⟩
        exact ⟨t, y, z, rfl, n, rfl, h1 _ (hp T' l), h2 _ (hp' T' l)⟩⟩
theorem vi_zip {e e2 : Expr} {ta : TA} {wa : WA} {p pos tpos : Pos} {elts : List Expr} {kk : Nat} (hK : X.K = Γ.K) (hg : Gl X "zip") (hm : X.mg "zip" = none) (ha : VA Γ X [e, e2] ta wa)
    (hs : starEach [e, e2] X.env = (false, eval e X.env) :: starEach [e2] X.env := by rfl) (hs2 : (backTo pos (starEach [e2] X.env)).any (·.1) = false := by rfl) : VI Γ X (.Tuple elts kk tpos) (.Call (.Name "zip" p) [e, e2] [] pos) (RZ.iZipA Γ.K ta) (wZip wa) := ⟨kpi_zipA hK hg hm ha.pe hs hs2, si_zip ha.se⟩
end
end Vl

namespace Vl
open PySem PySem.Spec PyProof.Rows L2 Hl

section
variable {Γ : Gx} {X : Cx} {T : Wo} {σ : L2.St} {ρ : Vn}
/-! ### a, b = .. : values, new lists, new dicts -/
inductive QI where
  | qv (d : D)
  | ql (l : List D)
  | qd
  | qt
/-- an object that nobody else has -/
structure Pv (T : Wo) (σ : L2.St) (ρ : Vn) (p : Addr) : Prop where
  f : T.F p = none
  z : T.H0 p = none
  d : T.Hd p = none
  n : ∀ (j : Nat) (c : Cell), ρ[j]? = some c → c.priv = true → σ[j]? ≠ some (some (.ref p))
def QR (Γ : Gx) (T : Wo) (σ : L2.St) (ρ : Vn) (x : V) : QI → Prop
  | .qv d => R Γ T.H0 T.Hd x d
  | .ql l => ∃ p us, x = .ref p ∧ T.H p = some (.lst us) ∧ RA Γ T.H0 T.Hd us l ∧ Pv T σ ρ p
  | .qd => ∃ p, x = .ref p ∧ T.H p = some (.dK []) ∧ Pv T σ ρ p
  | .qt => ∃ p, x = .ref p ∧ T.H p = some (.dT []) ∧ Pv T σ ρ p
def QI.fr : QI → Bool
  | .qv _ => false
  | _ => true
@[simp] def QI.cell : QI → Cell
  | .qv d => .val d
  | .ql l => .own l
  | .qd => .dic []
  | .qt => .dit []
inductive QRs (Γ : Gx) (T : Wo) (σ : L2.St) (ρ : Vn) : List V → List QI → Prop
  | nil : QRs Γ T σ ρ [] []
  | cons {x : V} {q : QI} {xs : List V} {qs : List QI} : QR Γ T σ ρ x q → QRs Γ T σ ρ xs qs → (q.fr = true → ∀ (i : Nat) (q' : QI), qs[i]? = some q' → q'.fr = true → xs[i]? ≠ some x) → QRs Γ T σ ρ (x :: xs) (q :: qs)
abbrev WQ := Vn → (QI → Vn → Prop) → Prop
abbrev WQs := Vn → (List QI → Vn → Prop) → Prop
structure SQ (Γ : Gx) (t : TE) (w : WQ) : Prop where
  h : ∀ {T : Wo} {σ : L2.St} {ρ : Vn} {Q : QI → Vn → Prop} {Q' : VK}, Sv Γ T σ ρ → w ρ Q → (∀ v T' q ρ', Sv Γ T' σ ρ' → Ext Γ T T' → QR Γ T' σ ρ' v q → Q q ρ' → Q' v T'.H) → t σ T.H Q'
structure SQs (Γ : Gx) (t : TA) (w : WQs) : Prop where
  h : ∀ {T : Wo} {σ : L2.St} {ρ : Vn} {Q : List QI → Vn → Prop} {Q' : List V → Hp → Prop}, Sv Γ T σ ρ → w ρ Q → (∀ vs T' qs ρ', Sv Γ T' σ ρ' → Ext Γ T T' → QRs Γ T' σ ρ' vs qs → Q qs ρ' → Q' vs T'.H) → t σ T.H Q'
structure VQ (Γ : Gx) (X : Cx) (e : Expr) (t : TE) (w : WQ) : Prop where
  pe : PE X e t
  se : SQ Γ t w
structure VQs (Γ : Gx) (X : Cx) (es : List Expr) (t : TA) (w : WQs) : Prop where
  pe : PA X es t
  se : SQs Γ t w
@[simp] def wQv (w : WE) : WQ := fun ρ Q => w ρ fun d ρ1 => Q (.qv d) ρ1
@[simp] def wQf (w : WF) : WQ := fun ρ Q => w ρ fun l ρ1 => Q (.ql l) ρ1
@[simp] def wQd : WQ := fun ρ Q => Q .qd ρ
@[simp] def wQt : WQ := fun ρ Q => Q .qt ρ
@[simp] def wQn : WQs := fun ρ Q => Q [] ρ
@[simp] def wQc (w : WQ) (u : WQs) : WQs := fun ρ Q => w ρ fun q ρ1 => u ρ1 fun qs ρ2 => Q (q :: qs) ρ2
variable {e : Expr} {es : List Expr} {te : TE} {ta : TA} {pos : Pos}
theorem vq_v {w : WE} (h : VE Γ X e te w) : VQ Γ X e te (wQv w) := ⟨h.pe, ⟨fun S hw q => h.se.h S hw fun v T' d ρ' S' e' r' z => q v T' (.qv d) ρ' S' e' r' z⟩⟩
theorem vq_f {w : WF} (h : VF Γ X e te w) : VQ Γ X e te (wQf w) := ⟨h.pe, ⟨fun S hw q => h.se.h S hw fun p us T' l ρ' S' e' hp nF n0 nd hn r' z => q (.ref p) T' (.ql l) ρ' S' e' ⟨p, us, rfl, hp, r', nF, n0, nd, hn⟩ z⟩⟩
theorem vq_dic : VQ Γ X (.Dict [] [] pos) tDNewK wQd := ⟨pe_dnewK, ⟨fun {T σ ρ Q Q'} S hw q => by
  intro p n
  have g := Gr.priv (o := .dK []) S.ok n
  exact q (.ref p) ⟨T.F, T.H0, T.Hd, upd T.H p (.dK []), T.P⟩ QI.qd ρ (S.grow g) g.ext ⟨p, rfl, upd_same, none_of_le S.ok.sF n, none_of_le S.ok.s0 n, none_of_le S.ok.sd n, fresh_priv S n⟩ hw⟩⟩
theorem vq_dit : VQ Γ X (.Dict [] [] pos) tDNewT wQt := ⟨pe_dnewT, ⟨fun {T σ ρ Q Q'} S hw q => by
  intro p n
  have g := Gr.priv (o := .dT []) S.ok n
  exact q (.ref p) ⟨T.F, T.H0, T.Hd, upd T.H p (.dT []), T.P⟩ QI.qt ρ (S.grow g) g.ext ⟨p, rfl, upd_same, none_of_le S.ok.sF n, none_of_le S.ok.s0 n, none_of_le S.ok.sd n, fresh_priv S n⟩ hw⟩⟩
theorem vqs_nil : VQs Γ X [] tNil wQn := ⟨pa_nil, ⟨fun {T σ ρ Q Q'} S h q => q [] T [] ρ S .refl .nil h⟩⟩
theorem sqs_fresh {w : WQs} {T1 : Wo} {ρ1 : Vn} {p : Addr} {o : HO} {Q : List QI → Vn → Prop} {Q' : List V → Hp → Prop} (h' : SQs Γ ta w) (S1 : Sv Γ T1 σ ρ1) (ho : ∀ us, o ≠ .tup us) (hp : T1.H p = some o) (pv : Pv T1 σ ρ1 p) (hw : w ρ1 Q)
    (q : ∀ vs T2 qs ρ2, Sv Γ T2 σ ρ2 → Ext Γ T1 T2 → QRs Γ T2 σ ρ2 vs qs → T2.H p = some o → Pv T2 σ ρ2 p → (∀ (i : Nat) (q' : QI), qs[i]? = some q' → q'.fr = true → vs[i]? ≠ some (.ref p)) → Q qs ρ2 → Q' vs T2.H) : ta σ T1.H Q' := by
  refine h'.h (T := ⟨upd T1.F p o, T1.H0, T1.Hd, T1.H, fun q => T1.P q ∧ q ≠ p⟩) (S1.reF ho hp pv.f pv.z pv.d pv.n) hw fun vs T2 qs ρ2 S2 e2 r2 q2 => ?_
  have fD : T2.F p = some o := by rw [e2.f]; exact upd_same
  obtain ⟨S3, hp3, n0, nd⟩ := S2.unreF (o' := o) e2.f e2.p pv.f
  have z : upd T2.H p o = T2.H := by
    funext b
    by_cases hb : b = p
    · subst hb; rw [upd_same, hp3]
    · rw [upd_ne hb]
  rw [z] at S3
  have hn : ∀ (j : Nat) (c : Cell), ρ2[j]? = some c → c.priv = true → σ[j]? ≠ some (some (.ref p)) := fun j c ec pc z => by
    obtain ⟨s, e1, r⟩ := S2.cell j c ec
    rw [z] at e1
    cases e1
    cases c with
    | own l => obtain ⟨q, vs, e3, _, _, m1, _⟩ := r; cases e3; rw [fD] at m1; cases m1
    | obj q c l => obtain ⟨C, dx, vs, e3, _, _, _, _, _, m1, _⟩ := r; cases e3; rw [fD] at m1; cases m1
    | dic l => obtain ⟨q, vs, e3, _, _, m1, _⟩ := r; cases e3; rw [fD] at m1; cases m1
    | dit l => obtain ⟨q, vs, e3, _, _, m1, _⟩ := r; cases e3; rw [fD] at m1; cases m1
    | pin q l => obtain ⟨vs, e3, e0, _⟩ := r; cases e3; rw [e2.p] at e0; exact e0.2 rfl
    | _ => cases pc
  have sF : ∀ {b}, T2.F b = none → T1.F b = none := fun {b} h => by
    rw [e2.f] at h
    dsimp only at h
    by_cases hb : b = p
    · subst hb; exact pv.f
    · rwa [upd_ne hb] at h
  have r3 : ∀ {vs qs}, QRs Γ T2 σ ρ2 vs qs → QRs Γ ⟨T1.F, T2.H0, T2.Hd, T2.H, T1.P⟩ σ ρ2 vs qs ∧ ∀ (i : Nat) (q' : QI), qs[i]? = some q' → q'.fr = true → vs[i]? ≠ some (.ref p) := by
    intro vs qs r
    induction r with
    | nil => exact ⟨.nil, fun i q' h => by simp at h⟩
    | cons r t d ih =>
      rename_i x q xs qs
      obtain ⟨ih1, ih2⟩ := ih
      have hx : QR Γ ⟨T1.F, T2.H0, T2.Hd, T2.H, T1.P⟩ σ ρ2 x q ∧ (q.fr = true → x ≠ .ref p) := by
        cases q with
        | qv d => exact ⟨r, fun z => nomatch z⟩
        | ql l =>
          obtain ⟨p', us, rfl, h1, h2, h3⟩ := r
          exact ⟨⟨p', us, rfl, h1, h2, sF h3.f, h3.z, h3.d, h3.n⟩, fun _ z => by cases z; rw [h3.f] at fD; cases fD⟩
        | qd =>
          obtain ⟨p', rfl, h1, h3⟩ := r
          exact ⟨⟨p', rfl, h1, sF h3.f, h3.z, h3.d, h3.n⟩, fun _ z => by cases z; rw [h3.f] at fD; cases fD⟩
        | qt =>
          obtain ⟨p', rfl, h1, h3⟩ := r
          exact ⟨⟨p', rfl, h1, sF h3.f, h3.z, h3.d, h3.n⟩, fun _ z => by cases z; rw [h3.f] at fD; cases fD⟩
      refine ⟨.cons hx.1 ih1 d, fun i q' h1 h2 h3 => ?_⟩
      cases i with
      | zero => simp at h1 h3; subst h1; exact hx.2 h2 h3
      | succ i => simp at h1 h3; exact ih2 i q' h1 h2 h3
  obtain ⟨r4, r5⟩ := r3 r2
  exact q vs ⟨T1.F, T2.H0, T2.Hd, T2.H, T1.P⟩ qs ρ2 S3 ⟨rfl, rfl, e2.s0, e2.da⟩ r4 hp3 ⟨pv.f, n0, nd, hn⟩ r5 q2
theorem vqs_cons {w : WQ} {u : WQs} (h : VQ Γ X e te w) (h' : VQs Γ X es ta u) (hs : starEach (e :: es) X.env = (false, eval e X.env) :: starEach es X.env := by rfl) : VQs Γ X (e :: es) (tCons te ta) (wQc w u) := ⟨pa_cons h.pe h'.pe hs, ⟨fun {T σ ρ Q Q'} S hw q =>
  h.se.h S hw fun v T1 qi ρ1 S1 e1 r1 q1 => by
    cases qi with
    | qv d => exact h'.se.h S1 q1 fun vs T2 qs ρ2 S2 e2 r2 q2 => q (v :: vs) T2 _ ρ2 S2 (e1.trans e2) (.cons (q := .qv d) (R.ext e2 r1) r2 fun z => nomatch z) q2
    | ql l =>
      obtain ⟨p, us, rfl, hp, r, pv⟩ := r1
      exact sqs_fresh h'.se S1 (fun _ z => by cases z) hp pv q1 fun vs T2 qs ρ2 S2 e2 r2 hp2 pv2 hd q2 => q (.ref p :: vs) T2 _ ρ2 S2 (e1.trans e2) (.cons (q := .ql l) ⟨p, us, rfl, hp2, RA.ext e2 r, pv2⟩ r2 fun _ => hd) q2
    | qd =>
      obtain ⟨p, rfl, hp, pv⟩ := r1
      exact sqs_fresh h'.se S1 (fun _ z => by cases z) hp pv q1 fun vs T2 qs ρ2 S2 e2 r2 hp2 pv2 hd q2 => q (.ref p :: vs) T2 _ ρ2 S2 (e1.trans e2) (.cons (q := .qd) ⟨p, rfl, hp2, pv2⟩ r2 fun _ => hd) q2
    | qt =>
      obtain ⟨p, rfl, hp, pv⟩ := r1
      exact sqs_fresh h'.se S1 (fun _ z => by cases z) hp pv q1 fun vs T2 qs ρ2 S2 e2 r2 hp2 pv2 hd q2 => q (.ref p :: vs) T2 _ ρ2 S2 (e1.trans e2) (.cons (q := .qt) ⟨p, rfl, hp2, pv2⟩ r2 fun _ => hd) q2⟩⟩
theorem qr_cell {x : V} {q : QI} (r : QR Γ T σ ρ x q) : CellR Γ T (some x) q.cell := by
  cases q with
  | qv d => exact ⟨x, rfl, r⟩
  | ql l => obtain ⟨p, us, rfl, hp, ra, pv⟩ := r; exact ⟨p, us, rfl, hp, ra, pv.f, pv.z, pv.d⟩
  | qd => obtain ⟨p, rfl, hp, pv⟩ := r; exact ⟨p, [], rfl, hp, .nil, pv.f, pv.z, pv.d⟩
  | qt => obtain ⟨p, rfl, hp, pv⟩ := r; exact ⟨p, [], rfl, hp, .nil, pv.f, pv.z, pv.d⟩
theorem qi_priv {q : QI} : q.cell.priv = q.fr := by cases q <;> rfl
/-- a store of such a value -/
theorem Sv.setQ {x : V} {q : QI} {i : Nat} (S : Sv Γ T σ ρ) (r : QR Γ T σ ρ x q) : Sv Γ T (σ.set i (some x)) (ρ.set i q.cell) := by
  refine S.set (qr_cell r) fun pc j p c' e2 e3 pc' e4 => ?_
  subst e2
  rw [qi_priv] at pc
  cases q with
  | qv d => cases pc
  | ql l => obtain ⟨p', us, e, hp, ra, pv⟩ := r; cases e; exact absurd e4 (pv.n j c' e3 pc')
  | qd => obtain ⟨p', e, hp, pv⟩ := r; cases e; exact absurd e4 (pv.n j c' e3 pc')
  | qt => obtain ⟨p', e, hp, pv⟩ := r; cases e; exact absurd e4 (pv.n j c' e3 pc')
theorem qr_set {x y : V} {q q' : QI} {i : Nat} (r : QR Γ T σ ρ x q) (hd : q.fr = true → q'.fr = true → y ≠ x) : QR Γ T (σ.set i (some y)) (ρ.set i q'.cell) x q := by
  have key : ∀ p, x = .ref p → q.fr = true → Pv T σ ρ p → Pv T (σ.set i (some y)) (ρ.set i q'.cell) p := fun p ex hf pv => by
    refine ⟨pv.f, pv.z, pv.d, fun j c e pc z => ?_⟩
    rcases set_at e with ⟨rfl, hl, rfl⟩ | ⟨hj, e⟩
    · rw [qi_priv] at pc
      rcases set_at z with ⟨_, _, z⟩ | ⟨hj, _⟩
      · cases z; exact hd hf pc ex.symm
      · exact hj rfl
    · rw [List.getElem?_set_ne hj] at z
      exact pv.n j c e pc z
  cases q with
  | qv d => exact r
  | ql l => obtain ⟨p, us, rfl, hp, ra, pv⟩ := r; exact ⟨p, us, rfl, hp, ra, key p rfl rfl pv⟩
  | qd => obtain ⟨p, rfl, hp, pv⟩ := r; exact ⟨p, rfl, hp, key p rfl rfl pv⟩
  | qt => obtain ⟨p, rfl, hp, pv⟩ := r; exact ⟨p, rfl, hp, key p rfl rfl pv⟩
@[simp] def wPar2 (i j : Nat) (w : WQs) : WS := fun D ρ => w ρ fun qs ρ1 => match qs with
  | [a, b] => D.nx ((ρ1.set i a.cell).set j b.cell)
  | _ => False
@[simp] def wPar3 (i j l : Nat) (w : WQs) : WS := fun D ρ => w ρ fun qs ρ1 => match qs with
  | [a, b, c] => D.nx (((ρ1.set i a.cell).set j b.cell).set l c.cell)
  | _ => False
theorem ss_par2 {i j : Nat} {wa : WQs} (h : SQs Γ ta wa) : SS Γ (tPar i j ta) (wPar2 i j wa) := ⟨fun {T σ ρ D D'} S hw a b c d => h.h S hw fun vs T1 qs ρ1 S1 e1 r1 q1 => by
  match qs, q1, r1 with
  | [x, y], q1, .cons rx (.cons ry .nil _) hd =>
    refine ⟨_, _, rfl, a T1 _ _ ((S1.setQ rx).setQ (qr_set ry fun h1 h2 => ?_)) e1 q1⟩
    exact fun z => hd h2 0 y rfl h1 (by rw [z]; rfl)⟩
theorem vs_par2 {i j : Nat} {x y : Str} {a b : Expr} {wa : WQs} {px py pt : Pos} {kt k2 pt2} (hc : X.calm = true) (hN : X.N.Nodup) (hi : X.N[i]? = some x) (hj : X.N[j]? = some y) (hij : i ≠ j)
    (hx : X.env.scope.names.lookup x = some .local) (hy : X.env.scope.names.lookup y = some .local) (ha : VQs Γ X [a, b] ta wa)
    (hw : swappedStores [.Tuple [.Name x px, .Name y py] kt pt] (.Tuple [a, b] k2 pt2) X.env = pure (some [x, y]))
    (hs : swapsWithSole [.Tuple [.Name x px, .Name y py] kt pt] (.Tuple [a, b] k2 pt2) pos.line X.env = pure false := by rfl) : VS Γ X (.Assign [.Tuple [.Name x px, .Name y py] kt pt] (.Tuple [a, b] k2 pt2) pos) (tPar i j ta) (wPar2 i j wa) := ⟨ps_par hc hN hi hj hij hx hy ha.pe hw hs, ss_par2 ha.se⟩
theorem ss_par3 {i j l : Nat} {wa : WQs} (h : SQs Γ ta wa) : SS Γ (tPar3 i j l ta) (wPar3 i j l wa) := ⟨fun {T σ ρ D D'} S hw a b c d => h.h S hw fun vs T1 qs ρ1 S1 e1 r1 q1 => by
  match qs, q1, r1 with
  | [x, y, z], q1, .cons rx (.cons ry (.cons rz .nil _) hd2) hd =>
    have ry2 := qr_set (i := i) ry fun h1 h2 e => hd h2 0 y rfl h1 (congrArg some e.symm)
    have rz2 := qr_set (i := i) rz fun h1 h2 e => hd h2 1 z rfl h1 (congrArg some e.symm)
    have rz3 := qr_set (i := j) rz2 fun h1 h2 e => hd2 h2 0 z rfl h1 (congrArg some e.symm)
    exact ⟨_, _, _, rfl, a T1 _ _ (((S1.setQ rx).setQ ry2).setQ rz3) e1 q1⟩⟩
theorem vs_par3 {i j l : Nat} {x y z : Str} {a b c : Expr} {wa : WQs} {px py pz pt : Pos} {kt k2 pt2} (hc : X.calm = true) (hN : X.N.Nodup) (hi : X.N[i]? = some x) (hj : X.N[j]? = some y) (hl : X.N[l]? = some z) (hij : i ≠ j) (hil : i ≠ l) (hjl : j ≠ l)
    (hx : X.env.scope.names.lookup x = some .local) (hy : X.env.scope.names.lookup y = some .local) (hz : X.env.scope.names.lookup z = some .local) (ha : VQs Γ X [a, b, c] ta wa)
    (hw : swappedStores [.Tuple [.Name x px, .Name y py, .Name z pz] kt pt] (.Tuple [a, b, c] k2 pt2) X.env = pure (some [x, y, z]))
    (hs : swapsWithSole [.Tuple [.Name x px, .Name y py, .Name z pz] kt pt] (.Tuple [a, b, c] k2 pt2) pos.line X.env = pure false := by rfl) :
    VS Γ X (.Assign [.Tuple [.Name x px, .Name y py, .Name z pz] kt pt] (.Tuple [a, b, c] k2 pt2) pos) (tPar3 i j l ta) (wPar3 i j l wa) := ⟨ps_par3 hc hN hi hj hl hij hil hjl hx hy hz ha.pe hw hs, ss_par3 ha.se⟩
/-! ### a def with *others -/
structure DfR (P : Program) (w : World) (K : PySem.W.Frag) (mg : Str → Option Value) (base : Heap) (k : Nat) (nm : Str) (sp : Sp) where
  f : Addr
  ok : FnR P w K mg base CX0 k f sp
  m : mg nm = some (.ref f)
  kp : PySem.W.keepIn K (.ref f) = true
/-! ### sum(lists, []) -/
def lstO : D → Option (List D)
  | .lst l => some l
  | _ => none
def sumLO : List D → Option (List D)
  | [] => some []
  | .lst l :: r => (sumLO r).map (l ++ ·)
  | _ :: _ => none
@[simp] def fSumL : FN
  | [.lst l, .lst []], k => oK (sumLO l) fun m => (0 < l.length ∧ m.length ≤ sizeLine) ∧ k m
  | _, _ => False
def rSumL (K : PySem.W.Frag) : List V → Hp → VK → Prop := fun vs H Q => ∃ (a b : Addr) (xs : List V) (lst : Nat → List V), vs = [V.ref a, V.ref b] ∧ SqL K H a xs ∧ H b = some (.lst []) ∧ 0 < xs.length ∧ (∀ i v, xs[i]? = some v → ∃ c, v = .ref c ∧ H c = some (.lst (lst i))) ∧
  ((List.range xs.length).flatMap lst).length ≤ sizeLine ∧ ∀ p, H p = none → Q (.ref p) (upd H p (.lst ((List.range xs.length).flatMap lst)))
end
end Vl

namespace Vl
open PySem PySem.Spec PyProof.Rows L2 Hl

section
variable {Γ : Gx} {X : Cx} {T : Wo} {σ : L2.St} {ρ : Vn}
/-! ### a, b, c, d = .. : through a tuple -/
def gNm : List Nat → TGs
  | [] => gNil
  | i :: r => gCons (gName i) (gNm r)
@[simp] def setQs : List Nat → List QI → Vn → Vn
  | i :: r, q :: qs, ρ => setQs r qs (ρ.set i q.cell)
  | _, _, ρ => ρ
theorem QRs.len : ∀ {xs : List V} {qs : List QI}, QRs Γ T σ ρ xs qs → xs.length = qs.length
  | _, _, .nil => rfl
  | _, _, .cons _ t _ => by rw [List.length_cons, List.length_cons, t.len]
theorem QRs.set {y : V} {q' : QI} {i : Nat} : ∀ {xs : List V} {qs : List QI}, QRs Γ T σ ρ xs qs → (q'.fr = true → ∀ (j : Nat) (q : QI), qs[j]? = some q → q.fr = true → xs[j]? ≠ some y) → QRs Γ T (σ.set i (some y)) (ρ.set i q'.cell) xs qs
  | _, _, .nil, _ => .nil
  | _, _, .cons (x := x) (q := q) h t d, hd => .cons (qr_set h fun h1 h2 e => hd h2 0 q rfl h1 (congrArg some e.symm)) (t.set fun h j q2 h1 h2 => hd h (j + 1) q2 h1 h2) d
theorem gNm_ok {Q' : L2.St → Hp → Prop} : ∀ {is : List Nat} {xs : List V} {qs : List QI} {σ : L2.St} {ρ : Vn}, Sv Γ T σ ρ → QRs Γ T σ ρ xs qs → qs.length = is.length → (∀ σ', Sv Γ T σ' (setQs is qs ρ) → Q' σ' T.H) → gNm is xs σ T.H Q'
  | [], _, _, _, _, S, .nil, _, q => ⟨rfl, q _ S⟩
  | _ :: _, _, _, _, _, S, .nil, h, q => by simp at h
  | [], _, _, _, _, S, .cons _ _ _, h, q => by simp at h
  | i :: r, _, _, _, _, S, .cons (x := x) (q := qi) h t d, hl, q => ⟨x, _, rfl, gNm_ok (S.setQ h) (t.set d) (by simpa using hl) q⟩
theorem QRs.priv {p : Addr} {o : HO} (n : T.H p = none) : ∀ {xs : List V} {qs : List QI}, QRs Γ T σ ρ xs qs → QRs Γ ⟨T.F, T.H0, T.Hd, upd T.H p o, T.P⟩ σ ρ xs qs
  | _, _, .nil => .nil
  | _, _, .cons (q := q) h t d => .cons (by
      cases q with
      | qv d => exact h
      | ql l => obtain ⟨a, us, e, h1, h2, h3⟩ := h; exact ⟨a, us, e, (by dsimp only; rw [upd_ne (ne_of_none h1 n)]; exact h1), h2, h3.f, h3.z, h3.d, h3.n⟩
      | qd => obtain ⟨a, e, h1, h3⟩ := h; exact ⟨a, e, (by dsimp only; rw [upd_ne (ne_of_none h1 n)]; exact h1), h3.f, h3.z, h3.d, h3.n⟩
      | qt => obtain ⟨a, e, h1, h3⟩ := h; exact ⟨a, e, (by dsimp only; rw [upd_ne (ne_of_none h1 n)]; exact h1), h3.f, h3.z, h3.d, h3.n⟩) (t.priv n) d
@[simp] def wParT (is : List Nat) (w : WQs) : WS := fun D ρ => w ρ fun qs ρ1 => (qs.length = is.length ∧ qs.length ≤ sizeLine) ∧ D.nx (setQs is qs ρ1)
theorem ss_parT {ta : TA} {is : List Nat} {wa : WQs} (h : SQs Γ ta wa) : SS Γ (tAsg (tTup ta) (gTup Γ.K is.length (gNm is))) (wParT is wa) := ⟨fun {T σ ρ D D'} S hw a b c d => h.h S hw fun vs T1 qs ρ1 S1 e1 r1 q1 => by
  refine ⟨by rw [r1.len]; exact q1.1.2, fun p n => ?_⟩
  have g := Gr.priv (o := .tup vs) S1.ok n
  refine ⟨p, vs, rfl, SqT.of upd_same, by rw [r1.len]; exact q1.1.1, ?_⟩
  exact gNm_ok (T := ⟨T1.F, T1.H0, T1.Hd, upd T1.H p (.tup vs), T1.P⟩) (S1.grow g) (r1.priv n) q1.1.1 fun σ' S' => a _ σ' _ S' (e1.trans g.ext) q1.2⟩
theorem vs_parT {ta : TA} {is : List Nat} {wa : WQs} {tg : Expr} {es : List Expr} {x1} {tpos pos : Pos} (ha : VQs Γ X es ta wa) (hg : PG X tg (gTup Γ.K is.length (gNm is)))
    (hs : swapsWithSole [tg] (.Tuple es x1 tpos) pos.line X.env = pure false := by rfl) (hw : swappedStores [tg] (.Tuple es x1 tpos) X.env = pure none := by rfl) (h1 : (assignEach [tg] X.env).map (·.2) = [assign tg X.env] := by rfl) :
    VS Γ X (.Assign [tg] (.Tuple es x1 tpos) pos) (tAsg (tTup ta) (gTup Γ.K is.length (gNm is))) (wParT is wa) := ⟨ps_asg (pe_tup ha.pe) hg hs hw h1, ss_parT ha.se⟩
end
end Vl

namespace Vl
open PySem PySem.Spec PyProof.Rows L2 Hl
theorem vals_app : ∀ {xs ys : List V} {us ws : List Value}, Vals xs us → Vals ys ws → Vals (xs ++ ys) (us ++ ws)
  | _, _, _, _, .nil, h => h
  | _, _, _, _, .cons r t, h => .cons r (vals_app t h)
theorem kcr_sumL {X : Cx} {K : PySem.W.Frag} (h : X.K = K) (hc : X.calm = true) : CallR X (.builtin "sum") (rSumL K) := by
  subst h
  intro pins s σ H vs us Q I r h
  obtain ⟨a, b, xs, lst, rfl, ha, hb, hpos, hl, hz, q⟩ := h
  obtain ⟨u, v, rfl, ru, rv⟩ := r.two
  cases ru
  cases rv
  obtain ⟨its, rI, pl, _⟩ := I.list ha
  obtain ⟨z2, its2, n2, r2, hl2, e2⟩ := I.lstM hb
  cases r2
  have key : ∀ i v, its[i]? = some v → ∃ (c : Addr) (n : Nat) (ws : List Value), v = .ref c ∧ IsL s.heap c ws.toArray n ∧ Vals (lst i) ws := fun i v hv => by
    have hi : i < xs.length := by
      obtain ⟨z, _⟩ := List.getElem?_eq_some_iff.mp hv
      rw [rI.length]; exact z
    obtain ⟨c, e1, e2⟩ := hl i xs[i] (List.getElem?_eq_getElem hi)
    obtain ⟨u, hu, ru⟩ := rI.get (List.getElem?_eq_getElem hi)
    rw [hv] at hu; cases hu
    rw [e1] at ru; cases ru
    obtain ⟨z3, its3, n3, r3, hl3, e3⟩ := I.lstM e2
    exact ⟨c, n3, its3, rfl, e3, r3⟩
  have k2 : ∀ i : Nat, ∃ ws : List Value, ∀ v, its[i]? = some v → ∃ (c : Addr) (n : Nat), v = .ref c ∧ IsL s.heap c ws.toArray n ∧ Vals (lst i) ws := fun i => by
    cases e : its[i]? with
    | none => exact ⟨[], fun v h => nomatch h⟩
    | some w =>
      obtain ⟨c, n, ws, h1, h2, h3⟩ := key i w e
      exact ⟨ws, fun v h => by cases h; exact ⟨c, n, h1, h2, h3⟩⟩
  obtain ⟨lv, hlv⟩ := Classical.axiomOfChoice k2
  have hpre : ∀ n, n ≤ its.length → Vals ((List.range n).flatMap lst) (preL lv n) := fun n => by
    induction n with
    | zero => intro _; exact .nil
    | succ n ih =>
      intro hn
      rw [List.range_succ, List.flatMap_append]
      obtain ⟨c, m, _, _, hv⟩ := hlv n its[n] (List.getElem?_eq_getElem (by omega))
      show Vals _ (preL lv n ++ lv n)
      refine vals_app (ih (by omega)) ?_
      simpa using hv
  have hlen := rI.length
  have hv := hpre its.length (Nat.le_refl _)
  rw [← hlen] at hv
  refine call_sum_lists (I.ok.hd hc) pl.isList e2 lv ?_ (fun i v hv => ?_) fun h' acc na tk hk hI hn => ?_
  · rw [List.size_toArray, ← hlen, ← hv.length]; exact hz
  · have hv' : its[i]? = some v := by simpa using hv
    obtain ⟨c, n, e, h, _⟩ := hlv i v hv'
    exact ⟨c, n, e, h⟩
  · rw [List.size_toArray, ← hlen] at hI hn
    have hge : s.heap.objs.size ≤ acc := Nat.le_of_lt (hn hpos)
    exact ⟨.ref acc, upd H acc (.lst _), I.laid (t' := tk) hk hge ⟨hz, _, na, hv, hI⟩, rfl, q acc (I.hok.fresh hge)⟩
section
variable {Γ : Gx}
theorem sumLO_ok {T : Wo} (ok : T.Ok) : ∀ {l m : List D} {vs : List V}, RA Γ T.H0 T.Hd vs l → sumLO l = some m → ∃ lst : Nat → List V, (∀ (i : Nat) v, vs[i]? = some v → ∃ c, v = .ref c ∧ T.H c = some (.lst (lst i))) ∧ RA Γ T.H0 T.Hd ((List.range vs.length).flatMap lst) m
  | [], m, _, .nil, h => by cases h; exact ⟨fun _ => [], fun i v h => by simp at h, .nil⟩
  | d :: l, m, v :: vs, .cons r t, h => by
    cases d <;> first | cases h | skip
    rename_i x
    unfold sumLO at h
    cases e : sumLO l with
    | none => rw [e] at h; cases h
    | some m' =>
      rw [e] at h
      cases h
      obtain ⟨lst, h1, h2⟩ := sumLO_ok ok t e
      cases r with
      | lst hp ra =>
        rename_i a us
        refine ⟨fun i => match i with | 0 => us | i + 1 => lst i, fun i v hv => ?_, ?_⟩
        · cases i with
          | zero => simp at hv; subst hv; exact ⟨a, rfl, ok.s0 _ _ hp⟩
          | succ i => simp at hv; exact h1 i v hv
        · rw [List.length_cons, List.range_succ_eq_map, List.flatMap_cons, List.flatMap_map]
          exact ra.app h2
theorem csf_sumL : CSF Γ (rSumL Γ.K) fSumL := ⟨fun {T xs as Q Q'} ok r h q => by
  unfold fSumL at h
  split at h
  · obtain ⟨v, u, rfl, r1, r2⟩ := r.two
    obtain ⟨m, e, ⟨h1, h2⟩, h3⟩ := oK_of h
    obtain ⟨a, vs, rfl, ha, ra⟩ := r1.lst ok
    obtain ⟨b, us, rfl, hb, rb⟩ := r2.lst ok
    cases rb
    obtain ⟨lst, h4, h5⟩ := sumLO_ok ok ra e
    exact ⟨a, b, vs, lst, rfl, SqL.of ha, hb, by rw [ra.len]; exact h1, h4, by rw [h5.len]; exact h2, fun p n => q p _ _ n h5 h3⟩
  · exact h.elim⟩
end
end Vl

namespace Vl
open PySem PySem.Spec PyProof.Rows L2 Hl
/-! ### data by shapes -/
abbrev tI (ns : List Int) : D := .tup (ns.map D.int)
abbrev lI (ns : List Int) : D := .lst (ns.map D.int)
@[simp] theorem eqv_int {i j : Int} : D.eqv (.int i) (.int j) = decide (i = j) := by
  show (i == j) = _
  by_cases h : i = j <;> simp [h]
@[simp] theorem flat_ints (ns : List Int) : (ns.map D.int).all D.flat = true := by
  induction ns with
  | nil => rfl
  | cons n ns ih => simpa using ih
@[simp] theorem mem_ints' (i : Int) (ns : List Int) : D.mem (.int i) (ns.map D.int) = decide (i ∈ ns) := by
  unfold D.mem
  induction ns with
  | nil => rfl
  | cons n ns ih =>
    rw [List.map_cons, List.any_cons, ih, eqv_int]
    by_cases h : n = i
    · subst h; simp
    · have h' : ¬ i = n := fun e => h e.symm
      simp [h, h']
@[simp] theorem intsO_ints (ns : List Int) : intsO (ns.map D.int) = some ns := intsO_map ns
@[simp] theorem blsO_bls (ns : List Bool) : blsO (ns.map D.bl) = some ns := blsO_map ns
@[simp] theorem draw_iff {m : Int} {Q : D → Prop} : W_draw [.hnd, .int m] Q ↔ 0 < m ∧ m < 1073741824 ∧ ∀ r : Int, 0 ≤ r → r < m → Q (.int r) := by
  constructor
  · rintro ⟨m', e, h⟩; cases e; exact h
  · intro h; exact ⟨m, rfl, h⟩
@[simp] theorem heap_iff {ns : List Int} {Q : D → Prop} : W_heap [.scr ns] Q ↔ ns.length ≤ 63 ∧ Q .hnd := by
  constructor
  · rintro ⟨m', e, h⟩; cases e; exact h
  · intro h; exact ⟨ns, rfl, h⟩
theorem atI_nat' {α : Type} {xs : List α} {i : Int} {x : α} (h0 : 0 ≤ i) (h : xs[i.toNat]? = some x) : atI xs i = some x := by
  have e : ((i.toNat : Nat) : Int) = i := Int.toNat_of_nonneg h0
  rw [← e]
  exact atI_nat h
/-- a comprehension over data of one shape, its test and its item plain -/
theorem lc_of {α : Type} (enc : α → D) {g : WG} {c : WT} {w : WE} {vs : List Nat} {ρ : Vn} {Q : List D → Vn → Prop} (p : α → Bool) (out : α → D) (ρ1 : α → Vn) : ∀ (l : List α) (acc : List D),
    (∀ a ∈ l, ∀ (A : D → Vn → Prop) (B : Vn → Prop), (p a = true → A (out a) (ρ1 a)) → (p a = false → B (ρ1 a)) → g (enc a) ρ fun ρ1 => c ρ1 fun b ρ2 => (b = true → w ρ2 A) ∧ (b = false → B ρ2)) →
    (∀ a, wipeV (ρ1 a) vs = ρ) → acc.length + l.length ≤ sizeLine → Q (acc ++ (l.filter p).map out) ρ → lcV g c w vs (l.map enc) acc ρ Q
  | [], acc, _, _, _, h => by simpa using h
  | a :: l, acc, hs, hw, hz, h => by
    rw [List.map_cons]
    refine hs a (List.mem_cons_self ..) _ _ (fun hp => ?_) (fun hp => ?_)
    · refine ⟨by rw [List.length_cons] at hz; omega, ?_⟩
      rw [hw]
      refine lc_of enc p out ρ1 l _ (fun b hb => hs b (List.mem_cons_of_mem _ hb)) hw (by rw [List.length_append, List.length_singleton]; rw [List.length_cons] at hz; omega) ?_
      rw [List.filter_cons_of_pos hp, List.map_cons] at h
      simpa using h
    · rw [hw]
      refine lc_of enc p out ρ1 l _ (fun b hb => hs b (List.mem_cons_of_mem _ hb)) hw (by rw [List.length_cons] at hz; omega) ?_
      rwa [List.filter_cons_of_neg (by rw [hp]; exact Bool.false_ne_true)] at h
theorem lc_ofD {g : WG} {c : WT} {w : WE} {vs : List Nat} {ρ : Vn} {Q : List D → Vn → Prop} (p : D → Bool) (out : D → D) (ρ1 : D → Vn) (l : List D) (acc : List D)
    (hs : ∀ a ∈ l, ∀ (A : D → Vn → Prop) (B : Vn → Prop), (p a = true → A (out a) (ρ1 a)) → (p a = false → B (ρ1 a)) → g a ρ fun ρ1 => c ρ1 fun b ρ2 => (b = true → w ρ2 A) ∧ (b = false → B ρ2))
    (hw : ∀ a, wipeV (ρ1 a) vs = ρ) (hz : acc.length + l.length ≤ sizeLine) (h : Q (acc ++ (l.filter p).map out) ρ) : lcV g c w vs l acc ρ Q := by
  have z := lc_of (fun d : D => d) (g := g) (c := c) (w := w) (Q := Q) p out ρ1 l acc hs hw hz h
  rwa [List.map_id'] at z
/-- a class's name stands for one class -/
theorem noat {K : PySem.W.Frag} {mg : Str → Option Value} {c f : Str} {C0 : Addr} (hm : mg c = some (.ref C0)) (hn : NoAttr K C0 f) : ∀ C, mg c = some (.ref C) → NoAttr K C f := fun C h => by
  have e := hm.symm.trans h
  injection e with e
  injection e with e
  rw [← e]; exact hn
section
variable {Γ : Gx} {X : Cx} {T : Wo} {σ : L2.St} {ρ : Vn}
variable {elt tg iter : Expr} {ifs : List Expr} {scope : Scope} {own : List (Str × Nat)} {pos : Pos} {ti : TI} {g : TG} {tt : TT} {te : TE} {ts : List Nat} {wi : WI} {wg : WG} {wc : WT} {we : WE}
/-- a name that takes a comprehension's list, to share -/
theorem vs_setLcV {i : Nat} {y : Str} {py : Pos} {spos : Pos} (hc : X.calm = true) (hN : X.N.Nodup) (hy : X.N[i]? = some y) (hyl : X.env.scope.names.lookup y = some .local)
    (hsw : swapsWith (.ListComp elt [⟨tg, iter, ifs, 0⟩] scope pos) (some (.Name y py)) spos.line X.env = pure true) (hi : VI Γ X tg iter ti wi) (ok : BlkOk X.N X.env.scope scope own)
    (hg : ∀ (s : Shared) (H : Hp) (C : Addr) (cl : List (Str × Addr)) (fp : List Addr), VG Γ (X.blk s H scope (compEnvC scope cl C X.env) fp) tg g ts wg) (ht : ∀ (s : Shared) (H : Hp) (C : Addr) (cl : List (Str × Addr)) (fp : List Addr), VTs Γ (X.blk s H scope (compEnvC scope cl C X.env) fp) ifs tt wc)
    (he : ∀ (s : Shared) (H : Hp) (C : Addr) (cl : List (Str × Addr)) (fp : List Addr), VE Γ (X.blk s H scope (compEnvC scope cl C X.env) fp) elt te we) (hs : ∀ x, foldedSetIterable iter X.env x = pure x := by intro _; rfl) (hts : ∀ j ∈ ts, j ∈ own.map (·.2) := by decide) :
    VS Γ X (.Assign [.Name y py] (.ListComp elt [⟨tg, iter, ifs, 0⟩] scope pos) spos) (tAsg (tLc ti g tt te (own.map (·.2))) (gName i)) (wSet (wFz (wLc wi wg wc we (own.map (·.2)))) (gV i)) :=
  ⟨ps_setLc hc hN hy hyl hsw hi.pe ok (fun s H C cl fp => (hg s H C cl fp).pe) (fun s H C cl fp => (ht s H C cl fp).pe) (fun s H C cl fp => (he s H C cl fp).pe) hs, ss_set (se_fz (sf_lc hi.se (hg ({} : Shared) (fun _ => none) 0 [] []).se (ht ({} : Shared) (fun _ => none) 0 [] []).se (he ({} : Shared) (fun _ => none) 0 [] []).se hts)) sg_name⟩
end
end Vl

namespace Vl
open PySem PySem.Spec PyProof.Rows L2 Hl
/-! ### isinstance: several built-in classes, own classes -/
/-- what isinstance asks of an object's class -/
structure IsiO (K : PySem.W.Frag) (C : Addr) : Prop where
  f1 : PySem.W.findIn K (.ref C) "__class__" = some (some (.builtin "object.__class__"))
  f2 : PySem.W.specialIn K (.builtin "object.__class__") "__get__" = some (some (.builtin "getset_descriptor.__get__"))
  f3 : PySem.W.takesIn K (.builtin "object.__class__") = some true
  f4 : PySem.W.mroIn K C (.type "object") = some true
@[simp] def D.kn (cs : List Str) : D → Bool
  | .obj c _ => decide (c ∈ cs)
  | .hnd => false
  | .scr _ => false
  | .dct _ => false
  | .set _ => false
  | _ => true
@[simp] def D.isCl (c : Str) : D → Bool
  | .obj c' _ => decide (c' = c)
  | _ => false
def bnames : List String := ["NoneType", "bool", "int", "str", "tuple", "list"]
section
variable {Γ : Gx} {T : Wo} {v : V}
theorem RO.obj {c : Str} {fs : List (Str × D)} (ok : T.Ok) (h : RO Γ T v (.obj c fs)) : ∃ a C dx vf, v = .ref a ∧ T.H a = some (.ins C dx vf) ∧ Γ.mg c = some (.ref C) ∧ Cls Γ.K C := by
  cases h with
  | sh h =>
    cases h with
    | obj h m cl na a => exact ⟨_, _, _, _, rfl, ok.s0 _ _ h, m, cl⟩
theorem ro_kn {cs : List Str} {d : D} (hI : ∀ c ∈ cs, ∀ C, Γ.mg c = some (.ref C) → IsiO Γ.K C) (ok : T.Ok) (r : RO Γ T v d) (h : d.kn cs = true) :
    (d.tyN = true ∧ ∃ S, S ∈ bnames ∧ TyN d S ∧ TyX Γ.K T.H v (.type S)) ∨ ∃ c fs C, d = .obj c fs ∧ c ∈ cs ∧ Γ.mg c = some (.ref C) ∧ TyX Γ.K T.H v (.ref C) := by
  cases d with
  | obj c fs =>
    obtain ⟨a, C, dx, vf, rfl, ha, m, cl⟩ := r.obj ok
    have hc : c ∈ cs := of_decide_eq_true h
    have i := hI c hc C m
    exact .inr ⟨c, fs, C, rfl, hc, m, .base (.ins ha cl i.f1 i.f2 i.f3 i.f4)⟩
  | hnd => cases h
  | scr _ => cases h
  | dct _ => cases h
  | set _ => cases h
  | non => obtain ⟨S, h1, h2⟩ := ro_ty ok r rfl; exact .inl ⟨rfl, S, by cases h1; simp [bnames], h1, h2⟩
  | bl b => obtain ⟨S, h1, h2⟩ := ro_ty ok r rfl; exact .inl ⟨rfl, S, by cases h1; simp [bnames], h1, h2⟩
  | int b => obtain ⟨S, h1, h2⟩ := ro_ty ok r rfl; exact .inl ⟨rfl, S, by cases h1; simp [bnames], h1, h2⟩
  | str b => obtain ⟨S, h1, h2⟩ := ro_ty ok r rfl; exact .inl ⟨rfl, S, by cases h1; simp [bnames], h1, h2⟩
  | tup b => obtain ⟨S, h1, h2⟩ := ro_ty ok r rfl; exact .inl ⟨rfl, S, by cases h1; simp [bnames], h1, h2⟩
  | lst b => obtain ⟨S, h1, h2⟩ := ro_ty ok r rfl; exact .inl ⟨rfl, S, by cases h1; simp [bnames], h1, h2⟩
end
/-- isinstance(x, C), C a class of the text; cs: the classes that x may have -/
@[simp] def wIsiO (cs : List Str) (c : Str) (w : WO) : WE := fun ρ Q => w ρ fun a ρ1 => rs1 ρ1 a fun d => d.kn cs = true ∧ Q (.bl (d.isCl c)) ρ1
/-- isinstance(x, (S, T)) -/
@[simp] def wIsiT (cs : List Str) (Us : List Tn) (w : WO) : WE := fun ρ Q => w ρ fun a ρ1 => rs1 ρ1 a fun d => d.kn cs = true ∧ Q (.bl (Us.any fun U => d.isTy U)) ρ1
def tTys : List Tn → TA
  | [] => tNil
  | U :: Us => tCons (tC (.ty U.nm)) (tTys Us)
theorem tTys_run : ∀ {Us : List Tn} {σ : L2.St} {H : Hp} {Q : List V → Hp → Prop}, Q (Us.map fun (U : Tn) => V.ty U.nm) H → tTys Us σ H Q
  | [], _, _, _, h => h
  | U :: Us, σ, H, Q, h => tTys_run (Us := Us) (Q := fun vs H2 => Q (V.ty U.nm :: vs) H2) h
theorem tys_cls : ∀ {Us : List Tn}, Paired ClsV (Us.map fun (U : Tn) => V.ty U.nm) (Us.map fun (U : Tn) => Value.type U.nm)
  | [] => .nil
  | U :: Us => .cons (.ty U.nm) tys_cls
theorem kitAny_of {K : PySem.W.Frag} {t : Value} {f : Tn → Bool} : ∀ {Us : List Tn}, (∀ U ∈ Us, PySem.W.kitOne K t (.type U.nm) = some (f U)) → PySem.W.kitAny K t (Us.map fun (U : Tn) => Value.type U.nm) = some (Us.any f)
  | [], _ => rfl
  | U :: Us, h => by
    have h1 := h U (List.mem_cons_self ..)
    have h2 := kitAny_of (Us := Us) fun U hU => h U (List.mem_cons_of_mem _ hU)
    rw [List.map_cons]
    show (match PySem.W.kitOne K t (.type U.nm) with | some true => some true | some false => PySem.W.kitAny K t (Us.map fun (U : Tn) => Value.type U.nm) | none => none) = _
    rw [h1, List.any_cons]
    cases f U with
    | true => rfl
    | false => exact h2
section
variable {Γ : Gx} {X : Cx} {e : Expr} {te : TE} {we : WO} {x : Str} {p pos : Pos} {e2 : Expr} {U : Tn}
theorem ve_isiT {Us : List Tn} {cs : List Str} {x1 : Nat} {tpos : Pos} {es : List Expr} (hK : X.K = Γ.K) (h : VO Γ X e te we) (h2 : PA X es (tTys Us)) (hz : Us.length ≤ 8) (hg : Gl X "isinstance") (hm : X.mg "isinstance" = none)
    (hI : ∀ c ∈ cs, ∀ C, Γ.mg c = some (.ref C) → IsiO Γ.K C) (hU : ∀ c ∈ cs, ∀ C, Γ.mg c = some (.ref C) → ∀ U ∈ Us, PySem.W.kitOne Γ.K (.ref C) (.type U.nm) = some false)
    (he : starEach (e :: [.Tuple es x1 tpos]) X.env = (false, eval e X.env) :: starEach [.Tuple es x1 tpos] X.env := by rfl) (he2 : starEach [.Tuple es x1 tpos] X.env = (false, eval (.Tuple es x1 tpos) X.env) :: starEach [] X.env := by rfl) (hpl : (backTo pos (starEach [.Tuple es x1 tpos] X.env)).any (·.1) = false := by rfl) :
    VE Γ X (.Call (.Name "isinstance" p) [e, .Tuple es x1 tpos] [] pos) (tCB (rIsiT Γ.K) (tCons te (tCons (tTup (tTys Us)) tNil))) (wIsiT cs Us we) :=
  ⟨pe_callB (by rw [← hK]; exact call_isiT) hg hm (by decide +kernel) (pa_cons h.pe (pa_cons (pe_tup h2) pa_nil he2) he) (by decide) (by decide) he hpl, ⟨fun {T σ ρ Q Q'} S hw q => h.se.h S hw fun v T1 a ρ1 S1 e1 r1 q1 => by
    refine tTys_run (Us := Us) ⟨by rw [List.length_map, sizeLine_eq]; omega, fun tp n => ?_⟩
    have g := Gr.new (o := .tup (Us.map fun (U : Tn) => V.ty U.nm)) S1.ok n
    have S2 := S1.grow g
    obtain ⟨d, r, ht, q1⟩ := S2.rs1 (r1.ext g.ext) q1
    rcases ro_kn hI S2.ok r ht with ⟨_, S, hS, tS, ty⟩ | ⟨c, fs, C, rfl, hc, m, ty⟩
    · exact ⟨v, tp, _, .type S, _, _, rfl, upd_same, tys_cls, ty, kitAny_of (f := fun U => d.isTy U) fun U _ => kit_ty (kit_tab tS), q (.bl _) _ _ ρ1 S2 (e1.trans g.ext) (.bl _) q1⟩
    · exact ⟨v, tp, _, .ref C, _, _, rfl, upd_same, tys_cls, ty, kitAny_of (f := fun U => (D.obj c fs).isTy U) fun U hU' => by rw [hU c hc C m U hU']; cases U <;> rfl, q (.bl _) _ _ ρ1 S2 (e1.trans g.ext) (.bl _) q1⟩⟩⟩
theorem ve_isiB {cs : List Str} (hK : X.K = Γ.K) (h : VO Γ X e te we) (h2 : PE X e2 (tC (.ty U.nm))) (hg : Gl X "isinstance") (hm : X.mg "isinstance" = none)
    (hI : ∀ c ∈ cs, ∀ C, Γ.mg c = some (.ref C) → IsiO Γ.K C) (hU : ∀ c ∈ cs, ∀ C, Γ.mg c = some (.ref C) → PySem.W.kitOne Γ.K (.ref C) (.type U.nm) = some false)
    (he : starEach (e :: [e2]) X.env = (false, eval e X.env) :: starEach [e2] X.env := by rfl) (he2 : starEach [e2] X.env = (false, eval e2 X.env) :: starEach [] X.env := by rfl) (hpl : (backTo pos (starEach [e2] X.env)).any (·.1) = false := by rfl) :
    VE Γ X (.Call (.Name "isinstance" p) [e, e2] [] pos) (tCB (rIsi Γ.K) (tCons te (tCons (tC (.ty U.nm)) tNil))) (wIsiT cs [U] we) :=
  ⟨pe_callB (by rw [← hK]; exact call_isi) hg hm (by decide +kernel) (pa_cons h.pe (pa_cons h2 pa_nil he2) he) (by decide) (by decide) he hpl, ⟨fun {T σ ρ Q Q'} S hw q => h.se.h S hw fun v T1 a ρ1 S1 e1 r1 q1 => by
    obtain ⟨d, r, ht, q1⟩ := S1.rs1 r1 q1
    rcases ro_kn hI S1.ok r ht with ⟨hn, S, hS, tS, ty⟩ | ⟨c', fs, C', rfl, hc, m, ty⟩
    · rw [List.any_cons, List.any_nil, Bool.or_false] at q1
      exact ⟨v, _, _, _, _, rfl, .ty _, ty, kit_ty (kit_tab tS), q (.bl _) T1 _ ρ1 S1 e1 (.bl _) q1⟩
    · refine ⟨v, _, _, _, _, rfl, .ty _, ty, hU c' hc C' m, q (.bl _) T1 _ ρ1 S1 e1 (.bl _) ?_⟩
      cases U <;> exact q1⟩⟩
theorem ve_isiO {cs : List Str} {c : Str} {C : Addr} (hK : X.K = Γ.K) (h : VO Γ X e te we) (h2 : PE X e2 (tC (.ref C))) (hg : Gl X "isinstance") (hm : X.mg "isinstance" = none)
    (hI : ∀ c ∈ cs, ∀ C, Γ.mg c = some (.ref C) → IsiO Γ.K C) (hB : ∀ S ∈ bnames, PySem.W.kitOne Γ.K (.type S) (.ref C) = some false) (hC : ∀ c' ∈ cs, ∀ C', Γ.mg c' = some (.ref C') → PySem.W.kitOne Γ.K (.ref C') (.ref C) = some (decide (c' = c)))
    (he : starEach (e :: [e2]) X.env = (false, eval e X.env) :: starEach [e2] X.env := by rfl) (he2 : starEach [e2] X.env = (false, eval e2 X.env) :: starEach [] X.env := by rfl) (hpl : (backTo pos (starEach [e2] X.env)).any (·.1) = false := by rfl) :
    VE Γ X (.Call (.Name "isinstance" p) [e, e2] [] pos) (tCB (rIsi Γ.K) (tCons te (tCons (tC (.ref C)) tNil))) (wIsiO cs c we) :=
  ⟨pe_callB (by rw [← hK]; exact call_isi) hg hm (by decide +kernel) (pa_cons h.pe (pa_cons h2 pa_nil he2) he) (by decide) (by decide) he hpl, ⟨fun {T σ ρ Q Q'} S hw q => h.se.h S hw fun v T1 a ρ1 S1 e1 r1 q1 => by
    obtain ⟨d, r, ht, q1⟩ := S1.rs1 r1 q1
    rcases ro_kn hI S1.ok r ht with ⟨hn, S, hS, tS, ty⟩ | ⟨c', fs, C', rfl, hc, m, ty⟩
    · have : d.isCl c = false := by cases d <;> first | rfl | cases hn
      rw [this] at q1
      exact ⟨v, _, _, _, _, rfl, .own C, ty, hB S hS, q (.bl _) T1 _ ρ1 S1 e1 (.bl _) q1⟩
    · exact ⟨v, _, _, _, _, rfl, .own C, ty, hC c' hc C' m, q (.bl _) T1 _ ρ1 S1 e1 (.bl _) q1⟩⟩⟩
end
end Vl

namespace Vl
open PySem PySem.Spec PyProof.Rows L2 Hl
/-! ### calls by keywords alone -/
/-- the values in the parameters' order -/
def reo {α : Type} (pm : List Nat) (l : List α) : List α := pm.filterMap (l[·]?)
theorem paired_at {α β : Type} {r : α → β → Prop} : ∀ {vs : List α} {us : List β}, Paired r vs us → ∀ i : Nat, (vs[i]? = none ∧ us[i]? = none) ∨ ∃ v u, vs[i]? = some v ∧ us[i]? = some u ∧ r v u
  | _, _, .nil, i => .inl ⟨rfl, rfl⟩
  | _, _, .cons h t, 0 => .inr ⟨_, _, rfl, rfl, h⟩
  | _, _, .cons h t, i + 1 => paired_at t i
theorem paired_reo {α β : Type} {r : α → β → Prop} {vs : List α} {us : List β} (h : Paired r vs us) : ∀ pm : List Nat, Paired r (reo pm vs) (reo pm us)
  | [] => .nil
  | i :: pm => by
    have ih := paired_reo h pm
    unfold reo at ih ⊢
    rw [List.filterMap_cons, List.filterMap_cons]
    rcases paired_at h i with ⟨e1, e2⟩ | ⟨v, u, e1, e2, hr⟩
    · rw [e1, e2]; exact ih
    · rw [e1, e2]; exact .cons hr ih
section
variable {Γ : Gx} {T : Wo} {σ : L2.St}
theorem ARs.at : ∀ {vs : List V} {us : List AI}, ARs Γ T σ vs us → ∀ i : Nat, (vs[i]? = none ∧ us[i]? = none) ∨ ∃ v u, vs[i]? = some v ∧ us[i]? = some u ∧ AR Γ T σ v u
  | _, _, .nil, i => .inl ⟨rfl, rfl⟩
  | _, _, .cons h t, 0 => .inr ⟨_, _, rfl, rfl, h⟩
  | _, _, .cons h t, i + 1 => t.at i
theorem ARs.reo {vs : List V} {us : List AI} (h : ARs Γ T σ vs us) : ∀ pm : List Nat, ARs Γ T σ (Vl.reo pm vs) (Vl.reo pm us)
  | [] => .nil
  | i :: pm => by
    have ih := h.reo pm
    unfold Vl.reo at ih ⊢
    rw [List.filterMap_cons, List.filterMap_cons]
    rcases h.at i with ⟨e1, e2⟩ | ⟨v, u, e1, e2, hr⟩
    · rw [e1, e2]; exact ih
    · rw [e1, e2]; exact .cons hr ih
end
def reoK {α : Type} (pm : List Nat) (us ws : List α) : List α := if us.length = 0 ∧ ws.length = pm.length then reo pm ws else []
theorem paired_len {α β : Type} {r : α → β → Prop} : ∀ {vs : List α} {us : List β}, Paired r vs us → vs.length = us.length
  | _, _, .nil => rfl
  | _, _, .cons _ t => by rw [List.length_cons, List.length_cons, paired_len t]
theorem reoK_rel {pm : List Nat} {vs : List V} {us : List Value} {zs : List V} {ws : List Value} (h1 : Vals vs us) (h2 : Vals zs ws) : Vals (reoK pm vs zs) (reoK pm us ws) := by
  unfold reoK
  rw [paired_len h1, paired_len h2]
  split
  · exact paired_reo h2 pm
  · exact .nil
theorem reoK_len {pm : List Nat} {us ws : List Value} {n : Nat} (h : (reoK pm us ws).length = n + 1) : us = [] ∧ ws.length = pm.length := by
  unfold reoK at h
  split at h
  · rename_i z; exact ⟨List.eq_nil_of_length_eq_zero z.1, z.2⟩
  · cases h
structure VKw (Γ : Gx) (X : Cx) (kws : List Keyword) (t : TA) (w : WA) : Prop where
  pe : PK X kws t
  se : SA Γ t w
section
variable {Γ : Gx} {X : Cx} {e : Expr} {te : TE} {we : WO} {kws : List Keyword} {t : TA} {w : WA} {kpos : Pos} {nm : Option Str}
theorem vk_nil : VKw Γ X [] tNil wNil := ⟨pk_nil, ⟨fun {T σ ρ Q Q'} S h q => q [] T [] ρ S .refl .nil h⟩⟩
theorem vk_cons (h : VO Γ X e te we) (h' : VKw Γ X kws t w) : VKw Γ X (⟨nm, e, kpos⟩ :: kws) (tCons te t) (wCons we w) := ⟨pk_cons h.pe h'.pe, ⟨fun {T σ ρ Q Q'} S hw q =>
  h.se.h S hw fun v T1 a ρ1 S1 e1 r1 q1 => h'.se.h S1 q1 fun vs T2 as ρ2 S2 e2 r2 q2 => q (v :: vs) T2 (a :: as) ρ2 S2 (e1.trans e2) (.cons (r1.ext e2) r2) q2⟩⟩
variable {CX : CXT} {k : Nat} {f : Addr} {fd : FuncData} {ps ks : List Str} {W : WF1} {E : XK} {x : Str} {p pos : Pos}
/-- f(k = v, ..): pm tells where each parameter's value stands in the text -/
@[simp] def wCallK (W : WF1) (pm : List Nat) (w : WA) : WE := fun ρ Q => w ρ fun as ρ1 => as.length = pm.length ∧ rsN ρ1 (reo pm as) fun ds => W ds fun d => ((reo pm as).any (isO ρ1) = true → d.free = true) ∧ Q d ρ1
theorem ARs.len {T : Wo} {σ : L2.St} : ∀ {vs : List V} {us : List AI}, ARs Γ T σ vs us → vs.length = us.length
  | _, _, .nil => rfl
  | _, _, .cons _ t => by rw [List.length_cons, List.length_cons, t.len]
theorem ve_callK {pm : List Nat} (F : FnOk X.prog X.w X.K X.mg X.base CX k f fd ps (spV Γ W)) (hr : Room k X.A) (hg : Gl X x) (hm : X.mg x = some (.ref f)) (hk : PySem.W.keepIn X.K (.ref f) = true) (hb : KBinds X.K fd ps ks (reoK pm) (reoK pm)) (hx : Passes CX X E)
    (hkw : VKw Γ X kws t w) (hall : (backToKw pos (keywordEach kws X.env)).all (·.1.isSome) = true := by rfl) (hks : (backToKw pos (keywordEach kws X.env)).filterMap (·.1) = ks := by rfl)
    (hdb : (x == ("__debug__" : Str)) = false := by decide)
    (hpl : ((backTo pos (starEach [] X.env)).any (·.1) || (backToKw pos (keywordEach kws X.env)).any (·.1.isNone)) = false := by rfl) :
    VE Γ X (.Call (.Name x p) [] kws pos) (tCallK (spV Γ W) (reoK pm) E tNil t) (wCallK W pm w) :=
  ⟨pe_callK0 F hr hg hm hk hb hx hkw.pe hall hks hdb hpl, ⟨fun {T σ ρ Q Q'} S hw q => hkw.se.h S hw fun vs T1 as ρ1 S1 e1 r1 q1 => by
    show spV Γ W (reoK pm [] vs) T1.H Q' E
    have e : reoK pm [] vs = reo pm vs ++ [] := by
      unfold reoK
      rw [if_pos ⟨rfl, by rw [r1.len]; exact q1.1⟩, List.append_nil]
    rw [e]
    refine S1.call (r1.reo pm) (dd := []) (fun _ _ => .nil) ?_ fun v T2 d S2 e2 r2 q2 => q v T2 d ρ1 S2 (e1.trans e2) r2 q2
    simpa using q1.2⟩⟩
end
end Vl

namespace Vl
open PySem PySem.Spec PyProof.Rows L2 Hl
/-! ### what is known of the text's classes -/
theorem kit_base {K : PySem.W.Frag} {C : Addr} (h : ((PySem.W.clsIn K C).isSome && PySem.W.typeIn K (.ref C) == some (.type "type")) = true) : ∀ S ∈ bnames, PySem.W.kitOne K (.type S) (.ref C) = some false := by
  intro S hS
  simp only [bnames, List.mem_cons, List.not_mem_nil, or_false] at hS
  rcases hS with rfl | rfl | rfl | rfl | rfl | rfl
  all_goals
    show (if ((PySem.W.clsIn K C).isSome && PySem.W.typeIn K (.ref C) == some (.type "type")) = true then some false else none) = some false
    rw [if_pos h]
theorem kit_own {K : PySem.W.Frag} {C : Addr} : PySem.W.kitOne K (.ref C) (.ref C) = some true := by
  unfold PySem.W.kitOne
  rw [if_pos (by simp)]
theorem kit_bi {K : PySem.W.Frag} {C : Addr} {U : Tn} (h : PySem.W.mroIn K C (.type U.nm) = some false) : PySem.W.kitOne K (.ref C) (.type U.nm) = some false := by
  cases U <;> exact h
section
variable {mg : Str → Option Value} {P : Str → Addr → Prop} {c : Str} {C0 : Addr} {cs : List Str}
theorem kn_nil : ∀ c ∈ ([] : List Str), ∀ C, mg c = some (.ref C) → P c C := fun c h => by cases h
theorem kn_cons (m : mg c = some (.ref C0)) (p : P c C0) (h : ∀ c ∈ cs, ∀ C, mg c = some (.ref C) → P c C) : ∀ c' ∈ c :: cs, ∀ C, mg c' = some (.ref C) → P c' C := fun c' hc C hC => by
  rcases List.mem_cons.1 hc with rfl | hc
  · have e := m.symm.trans hC
    injection e with e
    injection e with e
    rw [← e]; exact p
  · exact h c' hc C hC
end
end Vl

namespace Vl
open PySem PySem.Spec PyProof.Rows L2 Hl
/-! ### str(int), list(range(..)), tuple(range(..)) -/
@[simp] def gStr : GN
  | [.int i], k => i.natAbs.log2 < 1920 ∧ k (.str (Str.ofString (toString i)))
  | _, _ => False
@[simp] def cInt : D → (Int → Prop) → Prop
  | .int i, k => k i
  | _, _ => False
section
variable {Γ : Gx} {X : Cx}
def rStr1 : List V → Hp → VK → Prop := fun xs H Q => ∃ i : Int, xs = [.int i] ∧ i.natAbs.log2 < 1920 ∧ Q (.str (Str.ofString (toString i))) H
theorem kcr_str : CallR X (.type "str") rStr1 := call_str_int
theorem cs_str : CS Γ rStr1 gStr := ⟨fun {T xs as Q Q'} ok r h q => by
  unfold gStr at h
  split at h
  · obtain ⟨v, rfl, r'⟩ := r.one
    cases r'.int
    exact ⟨_, rfl, h.1, gr_sc ok q (.str _) h.2⟩
  · exact h.elim⟩
theorem ra_rg {H0 Hd : Hp} {a b : Int} : RA Γ H0 Hd (rgV a b) (rgD a (b - a).toNat) := by
  unfold rgV rgD
  generalize List.range (b - a).toNat = l
  induction l with
  | nil => exact .nil
  | cons i l ih => exact .cons (.int _) ih
theorem rg_ok {a b : Int} (h : (-(2 ^ 62) ≤ a ∧ a < 2 ^ 62 ∧ -(2 ^ 62) ≤ b ∧ b < 2 ^ 62) ∧ (b - a).toNat ≤ 2 ^ 24) : RgOk a b := by
  unfold RgOk
  exact ⟨by omega, by omega, by omega, by omega, by omega⟩
@[simp] def wRgT (a b : WE) : WE := fun ρ Q => a ρ fun x ρ1 => b ρ1 fun y ρ2 => cInt x fun i => cInt y fun j => ((-(2 ^ 62) ≤ i ∧ i < 2 ^ 62 ∧ -(2 ^ 62) ≤ j ∧ j < 2 ^ 62) ∧ (j - i).toNat ≤ 2 ^ 24) ∧ Q (.tup (rgD i (j - i).toNat)) ρ2
@[simp] def wRgT1 (b : WE) : WE := fun ρ Q => b ρ fun y ρ2 => cInt y fun j => ((-(2 ^ 62) ≤ j ∧ j < 2 ^ 62) ∧ j.toNat ≤ 2 ^ 24) ∧ Q (.tup (rgD 0 j.toNat)) ρ2
@[simp] def wRgL (a b : WE) : WF := fun ρ Q => a ρ fun x ρ1 => b ρ1 fun y ρ2 => cInt x fun i => cInt y fun j => ((-(2 ^ 62) ≤ i ∧ i < 2 ^ 62 ∧ -(2 ^ 62) ≤ j ∧ j < 2 ^ 62) ∧ (j - i).toNat ≤ 2 ^ 24) ∧ Q (rgD i (j - i).toNat) ρ2
@[simp] def wRgL1 (b : WE) : WF := fun ρ Q => b ρ fun y ρ2 => cInt y fun j => ((-(2 ^ 62) ≤ j ∧ j < 2 ^ 62) ∧ j.toNat ≤ 2 ^ 24) ∧ Q (rgD 0 j.toNat) ρ2
variable {e1 e2 : Expr} {t1 t2 : TE} {w1 w2 : WE} {p p2 pos pos2 : Pos}
theorem ve_rgT1 (hc : X.calm = true) (hg : Gl X "tuple") (hm : X.mg "tuple" = none) (hg2 : Gl X "range") (hm2 : X.mg "range" = none) (h : VE Γ X e1 t1 w1) (he : starEach [e1] X.env = (false, eval e1 X.env) :: starEach [] X.env := by rfl)
    (he2 : starEach [.Call (.Name "range" p2) [e1] [] pos2] X.env = (false, eval (.Call (.Name "range" p2) [e1] [] pos2) X.env) :: starEach [] X.env := by rfl) :
    VE Γ X (.Call (.Name "tuple" p) [.Call (.Name "range" p2) [e1] [] pos2] [] pos) (tTupRg (tRg1 t1)) (wRgT1 w1) := ⟨pe_tupRg hc hg hm (prg_1 hg2 hm2 h.pe he) he2, ⟨fun {T σ ρ Q Q'} S hw q => h.se.h S hw fun v T1 d ρ1 S1 e1 r1 q1 => by
  cases d <;> first | exact q1.elim | skip
  cases r1
  rename_i j
  obtain ⟨hz, q1⟩ := q1
  have e0 : (j - 0).toNat = j.toNat := by rw [Int.sub_zero]
  refine ⟨j, rfl, rg_ok ⟨⟨by omega, by omega, hz.1.1, hz.1.2⟩, by rw [e0]; exact hz.2⟩, fun a n => ?_⟩
  have g := Gr.new (o := .tup (rgV 0 j)) S1.ok n
  have r := r_tup S1.ok n (ra_rg (Γ := Γ) (a := 0) (b := j))
  rw [e0] at r
  exact q _ _ _ ρ1 (S1.grow g) (e1.trans g.ext) r q1⟩⟩
theorem vf_rgL1 (hc : X.calm = true) (hg : Gl X "list") (hm : X.mg "list" = none) (hg2 : Gl X "range") (hm2 : X.mg "range" = none) (h : VE Γ X e1 t1 w1) (he : starEach [e1] X.env = (false, eval e1 X.env) :: starEach [] X.env := by rfl)
    (he2 : starEach [.Call (.Name "range" p2) [e1] [] pos2] X.env = (false, eval (.Call (.Name "range" p2) [e1] [] pos2) X.env) :: starEach [] X.env := by rfl) :
    VF Γ X (.Call (.Name "list" p) [.Call (.Name "range" p2) [e1] [] pos2] [] pos) (tLstRg (tRg1 t1)) (wRgL1 w1) := ⟨pe_listRg hc hg hm (prg_1 hg2 hm2 h.pe he) he2, ⟨fun {T σ ρ Q Q'} S hw q => h.se.h S hw fun v T1 d ρ1 S1 e1 r1 q1 => by
  cases d <;> first | exact q1.elim | skip
  cases r1
  rename_i j
  obtain ⟨hz, q1⟩ := q1
  have e0 : (j - 0).toNat = j.toNat := by rw [Int.sub_zero]
  refine ⟨j, rfl, rg_ok ⟨⟨by omega, by omega, hz.1.1, hz.1.2⟩, by rw [e0]; exact hz.2⟩, fun a n => ?_⟩
  have r := ra_rg (Γ := Γ) (H0 := T1.H0) (Hd := T1.Hd) (a := 0) (b := j)
  rw [e0] at r
  exact sf_new S1 e1 q n r q1⟩⟩
theorem ve_rgT (hc : X.calm = true) (hg : Gl X "tuple") (hm : X.mg "tuple" = none) (hg2 : Gl X "range") (hm2 : X.mg "range" = none) (h : VE Γ X e1 t1 w1) (h' : VE Γ X e2 t2 w2) (he : starEach [e1, e2] X.env = (false, eval e1 X.env) :: starEach [e2] X.env := by rfl) (hf : starEach [e2] X.env = (false, eval e2 X.env) :: starEach [] X.env := by rfl) (hp : (backTo pos2 (starEach [e2] X.env)).any (·.1) = false := by rfl)
    (he2 : starEach [.Call (.Name "range" p2) [e1, e2] [] pos2] X.env = (false, eval (.Call (.Name "range" p2) [e1, e2] [] pos2) X.env) :: starEach [] X.env := by rfl) :
    VE Γ X (.Call (.Name "tuple" p) [.Call (.Name "range" p2) [e1, e2] [] pos2] [] pos) (tTupRg (tRg2 t1 t2)) (wRgT w1 w2) := ⟨pe_tupRg hc hg hm (prg_2 hg2 hm2 h.pe h'.pe he hf hp) he2, ⟨fun {T σ ρ Q Q'} S hw q => h.se.h S hw fun v T1 d ρ1 S1 e1 r1 q1 => h'.se.h S1 q1 fun v2 T2 d2 ρ2 S2 e2 r2 q2 => by
  cases d <;> first | exact q2.elim | skip
  cases d2 <;> first | exact q2.elim | skip
  cases r1
  cases r2
  obtain ⟨hz, q2⟩ := q2
  rename_i i j
  refine ⟨i, j, rfl, rfl, rg_ok hz, fun a n => ?_⟩
  have g := Gr.new (o := .tup (rgV i j)) S2.ok n
  exact q _ _ _ ρ2 (S2.grow g) ((e1.trans e2).trans g.ext) (r_tup S2.ok n ra_rg) q2⟩⟩
theorem vf_rgL (hc : X.calm = true) (hg : Gl X "list") (hm : X.mg "list" = none) (hg2 : Gl X "range") (hm2 : X.mg "range" = none) (h : VE Γ X e1 t1 w1) (h' : VE Γ X e2 t2 w2) (he : starEach [e1, e2] X.env = (false, eval e1 X.env) :: starEach [e2] X.env := by rfl) (hf : starEach [e2] X.env = (false, eval e2 X.env) :: starEach [] X.env := by rfl) (hp : (backTo pos2 (starEach [e2] X.env)).any (·.1) = false := by rfl)
    (he2 : starEach [.Call (.Name "range" p2) [e1, e2] [] pos2] X.env = (false, eval (.Call (.Name "range" p2) [e1, e2] [] pos2) X.env) :: starEach [] X.env := by rfl) :
    VF Γ X (.Call (.Name "list" p) [.Call (.Name "range" p2) [e1, e2] [] pos2] [] pos) (tLstRg (tRg2 t1 t2)) (wRgL w1 w2) := ⟨pe_listRg hc hg hm (prg_2 hg2 hm2 h.pe h'.pe he hf hp) he2, ⟨fun {T σ ρ Q Q'} S hw q => h.se.h S hw fun v T1 d ρ1 S1 e1 r1 q1 => h'.se.h S1 q1 fun v2 T2 d2 ρ2 S2 e2 r2 q2 => by
  cases d <;> first | exact q2.elim | skip
  cases d2 <;> first | exact q2.elim | skip
  cases r1
  cases r2
  obtain ⟨hz, q2⟩ := q2
  exact ⟨_, _, rfl, rfl, rg_ok hz, fun a n => sf_new S2 (e1.trans e2) q n ra_rg q2⟩⟩⟩
end
end Vl

namespace HT
open PySem PySem.Spec PyProof.Rows
section
variable {prog : Program} {w : World} {A : Around} {E : Value → Shared → Prop} {s : Shared}
/-- t[::-1] of a tuple -/
theorem adjust_rev (n : Nat) : Builtin.Slice.sliceAdjust none none (-1) (n : Int) = ((n : Int) - 1, -1) := by
  unfold Builtin.Slice.sliceAdjust
  simp
theorem places_rev (n : Nat) : Builtin.Slice.slicePlaces ((n : Int) - 1) (-1) (-1) = n := by
  unfold Builtin.Slice.slicePlaces
  simp
  omega
theorem sliceApplied_rev {sl : Addr} {vl vu vs : Value} {n : Nat} {Q : Int × Int × Nat → Shared → Prop} (hs : s.heap.IsSliceOf sl vl vu vs) (pl : IsPart vl none) (pu : IsPart vu none) (ps : IsPart vs (some (-1)))
    (h : Q ((n : Int) - 1, -1, n) s) : wpAny (model prog w) A (Builtin.Slice.sliceApplied (.ref sl) (pure (n : Int))) Q E s := by
  obtain ⟨os, hos, hcs, hds⟩ := id hs
  unfold Builtin.Slice.sliceApplied Builtin.Slice.sliceFields
  refine wpAny_bind (wpAny_bind (wpAny_field hos hds (x := vl) rfl (wpAny_bind (wpAny_field hos hds (x := vu) rfl (wpAny_bind (wpAny_field hos hds (x := vs) rfl (wpAny_pure ?_)))))))
  refine wpAny_bind (slicePart_ ps ?_)
  show wpAny _ _ (if ((-1 : Int) == 0) = true then _ else _) _ _ s
  rw [if_neg (by decide)]
  refine wpAny_bind (slicePart_ pl (wpAny_bind (slicePart_ pu (wpAny_bind (wpAny_pure ?_)))))
  show wpAny _ _ (match Builtin.Slice.sliceAdjust none none (-1) (n : Int) with | (lo, hi) => pure (lo, (-1 : Int), Builtin.Slice.slicePlaces lo hi (-1))) _ _ s
  rw [adjust_rev]
  show wpAny _ _ (pure ((n : Int) - 1, (-1 : Int), Builtin.Slice.slicePlaces ((n : Int) - 1) (-1) (-1))) _ _ s
  rw [places_rev]
  exact wpAny_pure h
theorem fm_congr {α β : Type} {f g : α → Option β} : ∀ {l : List α}, (∀ a ∈ l, f a = g a) → l.filterMap f = l.filterMap g
  | [], _ => rfl
  | a :: l, h => by
    rw [List.filterMap_cons, List.filterMap_cons, h a (List.mem_cons_self ..), fm_congr fun b hb => h b (List.mem_cons_of_mem _ hb)]
theorem pick_rev (xs : Array Value) : ((List.range xs.size).filterMap fun (m : Nat) => xs[(((xs.size : Int) - 1) + (m : Int) * (-1)).toNat]?).toArray = xs.toList.reverse.toArray := by
  have e : ∀ m ∈ List.range xs.size, xs[(((xs.size : Int) - 1) + (m : Int) * (-1)).toNat]? = ((fun i => xs[i]?) ∘ fun k => xs.size - 1 - k) m := fun m hm => by
    have := List.mem_range.1 hm
    have : (((xs.size : Int) - 1) + (m : Int) * (-1)).toNat = xs.size - 1 - m := by omega
    rw [this]; rfl
  rw [fm_congr e, ← List.filterMap_map, PySem.W.krv_range, List.filterMap_reverse, PySem.W.krv_all]
theorem getItem_tuple_rev {t sl : Addr} {items : Array Value} {vl vu vs : Value} {Q : Value → Shared → Prop} (ht : IsTup s.heap t items) (hs : s.heap.IsSliceOf sl vl vu vs) (pl : IsPart vl none) (pu : IsPart vu none) (ps : IsPart vs (some (-1)))
    (h : Q (.ref s.heap.objs.size) { s with heap := s.heap.push { cls := .type "tuple", data := .seq items.toList.reverse.toArray } })
    (hsz : items.size ≤ sizeLine) : wpAny (model prog w) A (getItem (.ref t) (.ref sl)) Q E s := by
  have htake : sizeOk (.seq items.toList.reverse.toArray) := by
    show items.toList.reverse.toArray.size ≤ sizeLine
    rw [List.size_toArray, List.length_reverse, Array.length_toList]
    exact hsz
  obtain ⟨os, hos, hcs, hds⟩ := id hs
  have hTs : s.TypeIs (.ref sl) "slice" := ⟨os, hos, hcs⟩
  unfold getItem
  try with_reducible refine wpAny_holding ?_
  first | refine wpAny_bind (wpAny_pure ?_) | skip
  refine wpAny_bind (wpAny_sequenceKey ht.typeIs (by decide) ?_)
  refine wpAny_bind (wpAny_callSpecial?_slot (name := Str.ofString "__getitem__") ht.typeIs PyProof.Rows.slot_tuple_getitem
    (wpAny_call_entry PyProof.Rows.slot_tuple_getitem ht.typeIs entry_tuple_getitem ?_ (args_tuple_getitem _ _)))
  show wpAny _ _ (Builtin.Tuple.tupleItemsOf (.ref t) >>= _) _ _ s
  refine wpAny_bind (tupleItemsOf_ ht ?_)
  refine wpAny_bind (wpAny_typeOf hTs ?_)
  rw [if_pos (by decide)]
  refine wpAny_bind (sliceApplied_rev hs pl pu ps ?_)
  have hno : ¬ ((((items.size : Int) - 1) == 0 && (-1 : Int) == 1 && items.size == items.size) = true) := by
    intro q
    rw [Bool.and_eq_true, Bool.and_eq_true] at q
    exact absurd q.1.2 (by decide)
  show wpAny _ _ (if (((items.size : Int) - 1) == 0 && (-1 : Int) == 1 && items.size == items.size) = true then _ else _) _ _ s
  rw [if_neg hno, pick_rev]
  first
    | exact wpAny_bind (m := Builtin.Tuple.tupleExact _) (wpAny_newObj_type (wpAny_pure ⟨_, rfl, wpAny_pure h⟩) htake)
    | exact wpAny_bind (m := Builtin.Tuple.tupleExact _) (wpAny_newObj_type (wpAny_bind (wpAny_pure (wpAny_pure ⟨_, rfl, wpAny_pure h⟩))) htake)
    | exact wpAny_bind (wpAny_bind (m := Builtin.Tuple.tupleExact _) (wpAny_newObj_type (wpAny_pure (wpAny_pure ⟨_, rfl, wpAny_pure h⟩)) htake))
    | exact wpAny_bind (wpAny_bind (m := Builtin.Tuple.tupleExact _) (wpAny_newObj_type (wpAny_pure ⟨_, rfl, wpAny_pure h⟩) htake))
end
end HT
namespace Vl
open PySem PySem.Spec PyProof.Rows L2 Hl
section
variable {X : Cx} {e st : Expr} {te ts : TE} {p3 pos : Pos}
/-- t[::step], the step being -1, of a tuple or a list -/
def tRevP (K : PySem.W.Frag) (te ts : TE) : TE := fun σ H Q => te σ H fun x H1 => tPart ts σ H1 (fun o H2 => o = some (-1) ∧ H2 = H1) ∧ ∃ a xs, x = .ref a ∧ ((SqT K H1 a xs ∧ ∀ p, H1 p = none → Q (.ref p) (upd H1 p (.tup xs.reverse))) ∨ (SqL K H1 a xs ∧ ∀ p, H1 p = none → Q (.ref p) (upd H1 p (.lst xs.reverse))))
theorem pe_revP (he : PE X e te) (hs : PE X st ts) : PE X (.Subscript e (.Slice none none (some st) p3) pos) (tRevP X.K te ts) := by
  refine ⟨fun pins s σ H Q I h => ?_⟩
  refine Subscript_ (thn (he.run pins s σ H _ I h) fun v s1 ⟨x, H1, I1, r1, q1⟩ => ?_)
  obtain ⟨hm1, a, xs, ex, q⟩ := q1
  subst ex
  cases r1
  have hst : PO X (some st) (tPart ts) := po_some hs
  refine wpAny_Slice (thn (po_none.run pins s1 σ H1 (fun o H2 => o = none ∧ H2 = H1) I1 ⟨rfl, rfl⟩) fun vl s2 ⟨l, H2, I2, pl, el, e2⟩ => ?_)
  subst el e2
  refine thn (po_none.run pins s2 σ H2 (fun o H3 => o = none ∧ H3 = H2) I2 ⟨rfl, rfl⟩) fun vu s3 ⟨u, H3, I3, pu, eu, e3⟩ => ?_
  subst eu e3
  refine thn (hst.run pins s3 σ H3 (fun o H4 => o = some (-1) ∧ H4 = H3) I3 hm1) fun vs s4 ⟨o, H4, I4, ps, eo, e4⟩ => ?_
  subst eo e4
  have I5 : Inv X pins σ H4 { s4 with heap := s4.heap.push { cls := .type "slice", data := .fields #[vl, vu, vs] } } := I4.kept (t' := s4.toks) fun b ob q => Heap.get?_push_of_some _ q
  rcases q with ⟨hx, q⟩ | ⟨hx, q⟩
  · obtain ⟨its, r, ht, hz⟩ := I5.tuple hx
    have hlen := r.length
    show wpAny (model X.prog X.w) X.A (subscriptTail e (.Slice none none (some st) p3) (.ref a) (.ref s4.heap.objs.size)) (EP X pins σ Q) X.xe { s4 with heap := s4.heap.push { cls := .type "slice", data := .fields #[vl, vu, vs] } }
    refine tail_any (ops := [.ref a, .ref s4.heap.objs.size]) ht.typeIs (PyProof.Rows.slot_tuple_getitem.lookup) ?_ (by with_unfolding_all rfl)
    refine HT.getItem_tuple_rev ht (Heap.IsSliceOf.new _ vl vu vs) pl pu ps ?_ (by rw [List.size_toArray]; omega)
    refine ⟨.ref _, _, I5.laid (t' := s4.toks) (o := .tup xs.reverse) (fun b ob q => Heap.get?_push_of_some _ q) (Nat.le_refl _) ?_, rfl, q _ (I5.hok.fresh (Nat.le_refl _))⟩
    exact ⟨by rw [List.length_reverse]; exact hz, _, r.reverse, IsTup.new _ _⟩
  · obtain ⟨its, r, ht, hz⟩ := I5.list hx
    have hlen := r.length
    show wpAny (model X.prog X.w) X.A (subscriptTail e (.Slice none none (some st) p3) (.ref a) (.ref s4.heap.objs.size)) (EP X pins σ Q) X.xe { s4 with heap := s4.heap.push { cls := .type "slice", data := .fields #[vl, vu, vs] } }
    refine tail_any (ops := [.ref a, .ref s4.heap.objs.size]) ht.isList.typeIs (PySem.slot_list_getitem.lookup) ?_ (by with_unfolding_all rfl)
    refine wpAny_getItem_list_slice ht.isList (Heap.IsSliceOf.new _ vl vu vs) pl pu ps (by decide) ?_ (by rw [List.size_toArray]; omega)
    rw [PySem.W.krv_pick]
    refine ⟨.ref _, _, I5.laid (t' := s4.toks) (o := .lst xs.reverse) (fun b ob q => Heap.get?_push_of_some _ q) (Nat.le_refl _) ?_, rfl, q _ (I5.hok.fresh (Nat.le_refl _))⟩
    exact ⟨by rw [List.length_reverse]; exact hz, _, 0, r.reverse, Heap.get?_push_size _ rfl⟩
end
/-- t[::-1], t[::0 - 1]: a tuple -/
@[simp] def wRevT (w : WO) : WE := fun ρ Q => w ρ fun a ρ1 => rs1 ρ1 a fun d => match d with
  | .tup l => Q (.tup l.reverse) ρ1
  | .lst l => Q (.lst l.reverse) ρ1
  | _ => False
section
variable {Γ : Gx} {X : Cx} {e st : Expr} {te ts : TE} {we : WO} {ws : WE} {p3 pos : Pos}
theorem ve_revT (hK : X.K = Γ.K) (h : VO Γ X e te we) (hs : VE Γ X st ts ws) (hm : ∀ σ H, tPart ts σ H (fun o H2 => o = some (-1) ∧ H2 = H)) : VE Γ X (.Subscript e (.Slice none none (some st) p3) pos) (tRevP Γ.K te ts) (wRevT we) := ⟨by rw [← hK]; exact pe_revP h.pe hs.pe, ⟨fun {T σ ρ Q Q'} S hw q => h.se.h S hw fun v T1 a ρ1 S1 e1 r1 q1 => by
  refine ⟨hm _ _, ?_⟩
  obtain ⟨d, r, q1⟩ := S1.rs1 r1 q1
  cases d <;> first | exact q1.elim | skip
  · obtain ⟨p, vs, rfl, hp, rp⟩ := r.tup S1.ok
    refine ⟨p, vs, rfl, .inl ⟨hp, fun a n => ?_⟩⟩
    have g := Gr.new (o := .tup vs.reverse) S1.ok n
    exact q _ _ _ ρ1 (S1.grow g) (e1.trans g.ext) (r_tup S1.ok n rp.reverse) q1
  · obtain ⟨p, vs, rfl, hp, rp⟩ := r.lst S1.ok
    refine ⟨p, vs, rfl, .inr ⟨SqL.of hp, fun a n => ?_⟩⟩
    have g := Gr.new (o := .lst vs.reverse) S1.ok n
    exact q _ _ _ ρ1 (S1.grow g) (e1.trans g.ext) (r_lst S1.ok n rp.reverse) q1⟩⟩
end
end Vl
namespace Vl
open PySem PySem.Spec PyProof.Rows L2 Hl
theorem kit_base2 {K : PySem.W.Frag} {C : Addr} (h4 : PySem.W.mroIn K C (.type "object") = some true) (ht : PySem.W.typeIn K (.ref C) = some (.type "type")) : ∀ S ∈ bnames, PySem.W.kitOne K (.type S) (.ref C) = some false := by
  refine kit_base ?_
  unfold PySem.W.mroIn at h4
  cases e : PySem.W.clsIn K C with
  | none => rw [e] at h4; cases h4
  | some cd => rw [ht]; rfl
end Vl

namespace Vl
open PySem PySem.Spec PyProof.Rows L2 Hl
/-! ### plain helpers for what a law asks -/
theorem rgD_zero {lo : Int} : rgD lo 0 = [] := rfl
theorem rgD_succ {lo : Int} {n : Nat} : rgD lo (n + 1) = .int lo :: rgD (lo + 1) n := by
  unfold rgD
  rw [List.range_succ_eq_map, List.map_cons, List.map_map]
  congr 1
  · simp
  · apply List.map_congr_left
    intro i _
    simp [Function.comp]
    omega
theorem for_cons {g : WG} {b : WS} {d : D} {ds : List D} {D' : EV} {ρ : Vn} : forV g b (d :: ds) D' ρ = g d ρ fun ρ1 => b { D' with nx := forV g b ds D', ct := forV g b ds D', bk := D'.nx } ρ1 := rfl
theorem for_nil {g : WG} {b : WS} {D' : EV} {ρ : Vn} : forV g b [] D' ρ = D'.nx ρ := rfl
theorem lc_v {α : Type} (enc : α → D) {i : Nat} {c : WT} {w : WE} {ρ : Vn} {Q : List D → Vn → Prop} (p : α → Bool) (out : α → D) (l : List α) (acc : List D)
    (hs : ∀ a ∈ l, ∀ (A : D → Vn → Prop) (B : Vn → Prop), (p a = true → A (out a) (ρ.set i (.val (enc a)))) → (p a = false → B (ρ.set i (.val (enc a)))) → c (ρ.set i (.val (enc a))) fun b ρ2 => (b = true → w ρ2 A) ∧ (b = false → B ρ2))
    (h0 : ρ.set i .no = ρ) (hz : acc.length + l.length ≤ sizeLine) (h : Q (acc ++ (l.filter p).map out) ρ) : lcV (gV i) c w [i] (l.map enc) acc ρ Q := by
  refine lc_of enc p out (fun a => ρ.set i (.val (enc a))) l acc (fun a ha A B h1 h2 => hs a ha A B h1 h2) (fun a => ?_) hz h
  simp [wipeV, h0]
@[simp] theorem flt_true {α : Type} (l : List α) : l.filter (fun _ => true) = l := by simp [List.filter_eq_self]
/-- a comprehension without a test -/
theorem lc_m {α : Type} (enc : α → D) {i : Nat} {c : WT} {w : WE} {ρ : Vn} {Q : List D → Vn → Prop} (out : α → D) (l : List α)
    (hs : ∀ a ∈ l, ∀ (A : D → Vn → Prop) (B : Vn → Prop), A (out a) (ρ.set i (.val (enc a))) → c (ρ.set i (.val (enc a))) fun b ρ2 => (b = true → w ρ2 A) ∧ (b = false → B ρ2))
    (h0 : ρ.set i .no = ρ) (hz : l.length ≤ sizeLine) (h : Q (l.map out) ρ) : lcV (gV i) c w [i] (l.map enc) [] ρ Q := by
  refine lc_v enc (fun _ => true) out l [] (fun a ha A B h1 h2 => hs a ha A B (h1 rfl)) h0 (by simpa using hz) ?_
  simpa using h
@[simp] theorem intsO_mapi {α : Type} (f : α → Int) (l : List α) : intsO (l.map fun x => D.int (f x)) = some (l.map f) := by
  have := intsO_ints (l.map f)
  rwa [List.map_map] at this
@[simp] theorem intsO_mapc {α : Type} (f : α → Int) (l : List α) : intsO (l.map (D.int ∘ f)) = some (l.map f) := intsO_mapi f l
@[simp] theorem blsO_mapb {α : Type} (f : α → Bool) (l : List α) : blsO (l.map fun x => D.bl (f x)) = some (l.map f) := by
  have := blsO_bls (l.map f)
  rwa [List.map_map] at this
@[simp] theorem blsO_mapc {α : Type} (f : α → Bool) (l : List α) : blsO (l.map (D.bl ∘ f)) = some (l.map f) := blsO_mapb f l
theorem opt_get {α : Type} {l : List α} {i : Nat} (h : i < l.length) : ∃ x, l[i]? = some x := ⟨_, List.getElem?_eq_getElem h⟩
theorem drop_at {α : Type} {c : List α} {i : Nat} {x : α} {r : List α} (h : c.drop i = x :: r) : c[i]? = some x ∧ c.drop (i + 1) = r := by
  refine ⟨?_, ?_⟩
  · have : (c.drop i)[0]? = some x := by rw [h]; rfl
    simpa using this
  · rw [← List.tail_drop, h]; rfl
theorem eraseIdx_mapI {α β : Type} (f : α → β) : ∀ (l : List α) (i : Nat), (l.map f).eraseIdx i = (l.eraseIdx i).map f
  | [], _ => rfl
  | _ :: _, 0 => rfl
  | a :: l, i + 1 => by rw [List.map_cons, List.eraseIdx_cons_succ, List.eraseIdx_cons_succ, List.map_cons, eraseIdx_mapI f l i]
theorem perm_erase {α : Type} : ∀ {l : List α} {i : Nat} (h : i < l.length), (l[i] :: l.eraseIdx i).Perm l
  | a :: l, 0, _ => List.Perm.refl _
  | a :: l, i + 1, h => by
    rw [List.eraseIdx_cons_succ, List.getElem_cons_succ]
    have hi : i < l.length := Nat.lt_of_succ_lt_succ h
    exact (List.Perm.swap ..).trans ((perm_erase hi).cons a)
@[simp] theorem free_ints (l : List Int) : (tI l).free = true := by
  show D.freeL (l.map D.int) = true
  induction l with
  | nil => rfl
  | cons x l ih => rw [List.map_cons, D.freeL, ih]; rfl
def rl (n : Nat) : List Int := (List.range n).map fun i => ((i : Nat) : Int)
theorem rl_len {n : Nat} : (rl n).length = n := by simp [rl]
theorem mem_rl {n : Nat} {x : Int} : x ∈ rl n ↔ 0 ≤ x ∧ x < n := by
  simp only [rl, List.mem_map, List.mem_range]
  constructor
  · rintro ⟨a, h, rfl⟩; omega
  · intro h; exact ⟨x.toNat, by omega, by omega⟩
theorem rl_nd (n : Nat) : (rl n).Nodup := by
  rw [List.nodup_iff_pairwise_ne, rl, List.pairwise_map]
  exact List.Pairwise.imp (fun {a b} h e => by omega) (List.pairwise_lt_range (n := n))
theorem rgD_rl (n : Nat) : rgD 0 n = (rl n).map D.int := by
  unfold rgD rl
  rw [List.map_map]
  refine List.map_congr_left fun i _ => ?_
  simp
theorem rgD_map (lo : Int) (n : Nat) : rgD lo n = (List.range n).map fun i => D.int (lo + (i : Nat)) := rfl
/-! places -/
theorem atI_pick {l : List Int} {r : Int} (h0 : 0 ≤ r) (h1 : r < l.length) : ∃ v ∈ l, atI (l.map D.int) r = some (.int v) := by
  obtain ⟨n, rfl⟩ : ∃ n : Nat, r = n := ⟨r.toNat, by omega⟩
  obtain ⟨x, e⟩ := opt_get (l := l) (i := n) (by omega)
  exact ⟨x, List.mem_of_getElem? e, atI_nat (by rw [List.getElem?_map, e]; rfl)⟩
theorem atI_pickD {l : List D} {r : Int} (h0 : 0 ≤ r) (h1 : r < l.length) : ∃ v ∈ l, atI l r = some v := by
  obtain ⟨n, rfl⟩ : ∃ n : Nat, r = n := ⟨r.toNat, by omega⟩
  obtain ⟨x, e⟩ := opt_get (l := l) (i := n) (by omega)
  exact ⟨x, List.mem_of_getElem? e, atI_nat e⟩
theorem atI_last {α : Type} {l : List α} {x : α} : atI (l ++ [x]) (-1) = some x := by
  have e : ixN (l ++ [x]).length (-1) = some l.length := by
    unfold ixN
    have h1 : ¬ ((0 : Int) ≤ -1) := by omega
    simp [h1]
    omega
  unfold atI
  rw [e]
  simp
/-! slices -/
theorem cut_take {l : List D} {n : Nat} : cutD l none (some (n : Int)) = l.take n := by
  unfold cutD
  rw [HT.sIx_nat, HT.sIx_none, List.drop_zero, Nat.sub_zero, ← List.take_eq_take_min]
theorem cut_drop {l : List D} {n : Nat} : cutD l (some (n : Int)) none = l.drop n := by
  unfold cutD
  rw [HT.sIx_nat, HT.sIx_none]
  by_cases h : n ≤ l.length
  · rw [Nat.min_eq_left h, List.take_of_length_le (by rw [List.length_drop]; omega)]
  · rw [Nat.min_eq_right (by omega), List.drop_of_length_le (Nat.le_refl _), List.drop_of_length_le (by omega), List.take_nil]
theorem cut_take' {l : List D} {i : Int} (h : 0 ≤ i) : cutD l none (some i) = l.take i.toNat := by
  have e : ((i.toNat : Nat) : Int) = i := Int.toNat_of_nonneg h
  rw [← e, cut_take]
  rfl
theorem cut_drop' {l : List D} {i : Int} (h : 0 ≤ i) : cutD l (some i) none = l.drop i.toNat := by
  have e : ((i.toNat : Nat) : Int) = i := Int.toNat_of_nonneg h
  rw [← e, cut_drop]
  rfl
theorem cut_init {l : List D} {x : D} : cutD (l ++ [x]) none (some (-1)) = l := by
  unfold cutD HT.sIx
  have h1 : ((-1 : Int) < 0) := by omega
  have h2 : (-1 + ((l.length : Int) + 1)).toNat = l.length := by omega
  simp [h1, h2]
theorem cut_last {l : List D} {x : D} : cutD (l ++ [x]) (some (-1)) none = [x] := by
  unfold cutD HT.sIx
  have h1 : ((-1 : Int) < 0) := by omega
  have h2 : (-1 + ((l.length : Int) + 1)).toNat = l.length := by omega
  simp [h1, h2]
/-! equality of ints' sequences -/
theorem eqvAll_ints : ∀ (a b : List Int), PyData.eqvAll (D.pdL (a.map D.int)) (D.pdL (b.map D.int)) = decide (a = b)
  | [], [] => by simp [D.pdL, PyData.eqvAll]
  | [], _ :: _ => by simp [D.pdL, PyData.eqvAll]
  | _ :: _, [] => by simp [D.pdL, PyData.eqvAll]
  | x :: a, y :: b => by
    have e : PyData.eqv (D.int x).pd (D.int y).pd = decide (x = y) := eqv_int
    rw [List.map_cons, List.map_cons, D.pdL, D.pdL, PyData.eqvAll, e, eqvAll_ints a b]
    by_cases h1 : x = y <;> by_cases h2 : a = b <;> simp [h1, h2]
@[simp] theorem eqv_lI {a b : List Int} : D.eqv (.lst (a.map D.int)) (.lst (b.map D.int)) = decide (a = b) := by
  have := eqvAll_ints a b
  unfold D.eqv
  rw [D.pd, D.pd, PyData.eqv]
  exact this
@[simp] theorem eqv_tI {a b : List Int} : D.eqv (.tup (a.map D.int)) (.tup (b.map D.int)) = decide (a = b) := by
  have := eqvAll_ints a b
  unfold D.eqv
  rw [D.pd, D.pd, PyData.eqv]
  exact this
@[simp] theorem dat_lI {a : List Int} : D.dat dmax (.lst (a.map D.int)) = true := by
  show (a.map D.int).all (D.dat 7) = true
  rw [List.all_map, List.all_eq_true]
  intro x _
  rfl
@[simp] theorem dat_tI {a : List Int} : D.dat dmax (.tup (a.map D.int)) = true := by
  show (a.map D.int).all (D.dat 7) = true
  rw [List.all_map, List.all_eq_true]
  intro x _
  rfl
/-- every size in hand is small -/
theorem le_sz {n : Nat} (h : n ≤ 100000) : n ≤ sizeLine := by rw [sizeLine_eq]; omega
theorem lt_sz {n : Nat} (h : n ≤ 100000) : n < sizeLine := by rw [sizeLine_eq]; omega
end Vl

namespace Vl
open PySem PySem.Spec PyProof.Rows L2 Hl
/-! ### expressions that leave all slots as they are, piece by piece -/
structure Ev (e : WE) (ρ : Vn) (S : D → Prop) : Prop where
  h : ∀ K : D → Vn → Prop, (∀ d, S d → K d ρ) → e ρ K
structure EvL (u : WA) (ρ : Vn) (n : Nat) (S : D → Prop) : Prop where
  h : ∀ K : List AI → Vn → Prop, (∀ ds : List D, ds.length = n → (∀ d ∈ ds, S d) → K (ds.map AI.d) ρ) → u ρ K
variable {ρ : Vn} {S S' : D → Prop} {e e1 e2 e3 e4 : WE} {u : WA} {n : Nat}
theorem Ev.imp (h : Ev e ρ S) (i : ∀ d, S d → S' d) : Ev e ρ S' := ⟨fun K k => h.h K fun d hd => k d (i d hd)⟩
theorem shN_ds {ds : List D} {k : List D → Prop} : shN (ds.map AI.d) k ↔ k ds := by
  induction ds generalizing k with
  | nil => exact Iff.rfl
  | cons d ds ih =>
    show shN (ds.map AI.d) (fun r => k (d :: r)) ↔ k (d :: ds)
    exact ih
theorem rsN_ds {ds : List D} {k : List D → Prop} : rsN ρ (ds.map AI.d) k ↔ k ds := by
  induction ds generalizing k with
  | nil => exact Iff.rfl
  | cons d ds ih =>
    show rsN ρ (ds.map AI.d) (fun r => k (d :: r)) ↔ k (d :: ds)
    exact ih
theorem EvL.nil : EvL wNil ρ 0 S := ⟨fun K k => k [] rfl (fun _ h => by cases h)⟩
theorem EvL.cons (h : Ev e ρ S) (h' : EvL u ρ n S) : EvL (wCons (wOf e) u) ρ (n + 1) S := ⟨fun K k => h.h _ fun d hd => h'.h _ fun ds hl ha => k (d :: ds) (by simp [hl]) fun x hx => (List.mem_cons.1 hx).elim (fun e => e ▸ hd) (ha x)⟩
theorem Ev.var {i : Nat} {d : D} (h : ρ.getD i .no = .val d) (hs : S d) : Ev (wVar i) ρ S := ⟨fun K k => by unfold wVar; rw [h]; exact k d hs⟩
theorem Ev.cst {d : D} (hs : S d) : Ev (wC d) ρ S := ⟨fun K k => k d hs⟩
theorem Ev.tup4 {S1 S2 S3 S4 : D → Prop} (h1 : Ev e1 ρ S1) (h2 : Ev e2 ρ S2) (h3 : Ev e3 ρ S3) (h4 : Ev e4 ρ S4) (hs : ∀ a b c d, S1 a → S2 b → S3 c → S4 d → S (.tup [a, b, c, d])) : Ev (wTup (wCons (wOf e1) (wCons (wOf e2) (wCons (wOf e3) (wCons (wOf e4) wNil))))) ρ S := ⟨fun K k =>
  h1.h _ fun a ha => h2.h _ fun b hb => h3.h _ fun c hc => h4.h _ fun d hd => ⟨le_sz (by simp), k _ (hs a b c d ha hb hc hd)⟩⟩
theorem Ev.lst (h : EvL u ρ n S) (hn : n ≤ 100000) (hs : ∀ l : List D, l.length = n → (∀ d ∈ l, S d) → S' (.lst l)) : Ev (wFz (wLst u)) ρ S' := ⟨fun K k => h.h _ fun ds hl ha => by
  show shN (ds.map AI.d) _
  rw [shN_ds]
  exact ⟨le_sz (by omega), k _ (hs ds hl ha)⟩⟩
theorem Ev.catV {i : Nat} {L : List D} {N : Nat} (hi : ρ.getD i .no = .val (.lst L)) (hL : L.length ≤ N) (h : EvL u ρ n S) (hn : N + n ≤ 100000) (hs : ∀ l : List D, l.length = n → (∀ d ∈ l, S d) → S' (.lst (L ++ l))) : Ev (wOp gAdd (wSl i) (wOf (wFz (wLst u)))) ρ S' := ⟨fun K k => by
  unfold wOp wSl
  rw [hi]
  refine h.h _ fun ds hl ha => ?_
  rw [shN_ds]
  refine ⟨le_sz (by omega), ?_⟩
  show cRd (ρ.getD i .no) _
  rw [hi]
  exact ⟨le_sz (by omega), k _ (hs ds hl ha)⟩⟩
theorem mul_small {i j : Int} (hi : i.natAbs < 2 ^ 64) (hj : j.natAbs < 2 ^ 64) : CMulW i j := wide_mul hi hj (by omega) (by omega) (by omega)
@[simp] theorem eqv_bl {a b : Bool} : D.eqv (.bl a) (.bl b) = decide (a = b) := by cases a <;> cases b <;> rfl
theorem div_small {i j : Int} (h : 0 < j) (hj : j < 2 ^ 64) : CDivW i j := wide_div (b := 64) h (by omega) (by omega) (by omega)
theorem seq_ev {D' : EV} {z : WS} {i : Nat} (h : Ev e ρ S) (k : ∀ d, S d → z D' (ρ.set i (.val d))) : wSeq (wSet e (gV i)) z D' ρ := h.h _ fun d hd => k d hd
theorem set_ev {D' : EV} {i : Nat} (h : Ev e ρ S) (k : ∀ d, S d → D'.nx (ρ.set i (.val d))) : wSet e (gV i) D' ρ := h.h _ fun d hd => k d hd
theorem par2_ev {D' : EV} {z : WS} {i j : Nat} (h : Ev e1 ρ S) (h' : Ev e2 ρ S') (k : ∀ a b, S a → S' b → z D' ((ρ.set i (.val a)).set j (.val b))) : wSeq (wPar2 i j (wQc (wQv e1) (wQc (wQv e2) wQn))) z D' ρ := h.h _ fun a ha => h'.h _ fun b hb => k a b ha hb
theorem if_ev {D' : EV} {c : WT} {w z : WS} {b : Bool} (h : ∀ K : Bool → Vn → Prop, K b ρ → c ρ K) (k1 : b = true → w D' ρ) (k2 : b = false → z D' ρ) : wIf c w z D' ρ := h _ ⟨k1, k2⟩
theorem seq_if {D' : EV} {c : WT} {w z y : WS} {b : Bool} (h : ∀ K : Bool → Vn → Prop, K b ρ → c ρ K) (k1 : b = true → w { D' with nx := y D' } ρ) (k2 : b = false → z { D' with nx := y D' } ρ) : wSeq (wIf c w z) y D' ρ := h _ ⟨k1, k2⟩
theorem seq_ifd {D' : EV} {c : WT} {w z y : WS} {P : Bool → Prop} (h : ∀ K : Bool → Vn → Prop, (∀ b, P b → K b ρ) → c ρ K) (k1 : P true → w { D' with nx := y D' } ρ) (k2 : P false → z { D' with nx := y D' } ρ) : wSeq (wIf c w z) y D' ρ := h _ fun b hb => ⟨fun e => by subst e; exact k1 hb, fun e => by subst e; exact k2 hb⟩
/-! tests that answer one thing -/
def Tv (c : WT) (ρ : Vn) (b : Bool) : Prop := ∀ K : Bool → Vn → Prop, K b ρ → c ρ K
theorem Tv.or_f {w u : WT} {b : Bool} (h : Tv w ρ false) (h' : Tv u ρ b) : Tv (wOr w u) ρ b := fun K k => h _ ⟨fun z => (by cases z), fun _ => h' K k⟩
theorem Tv.or_t {w u : WT} (h : Tv w ρ true) : Tv (wOr w u) ρ true := fun K k => h _ ⟨fun _ => k, fun z => by cases z⟩
theorem Tv.and_t {w u : WT} {b : Bool} (h : Tv w ρ true) (h' : Tv u ρ b) : Tv (wAnd w u) ρ b := fun K k => h _ ⟨fun _ => h' K k, fun z => by cases z⟩
theorem Tv.and_f {w u : WT} (h : Tv w ρ false) : Tv (wAnd w u) ρ false := fun K k => h _ ⟨fun z => (by cases z), fun _ => k⟩
/-! calls, argument by argument -/
def EvA (u : WA) (ρ : Vn) (as : List AI) : Prop := ∀ K : List AI → Vn → Prop, K as ρ → u ρ K
theorem EvA.nil : EvA wNil ρ [] := fun K k => k
theorem EvA.of {as : List AI} {d : D} (h : Ev e ρ (· = d)) (h' : EvA u ρ as) : EvA (wCons (wOf e) u) ρ (.d d :: as) := fun K k => h.h _ fun x hx => by subst hx; exact h' _ k
theorem EvA.sl {as : List AI} {i : Nat} {d : D} (h : ρ.getD i .no = .val d) (h' : EvA u ρ as) : EvA (wCons (wSl i) u) ρ (.sl i :: as) := fun K k => by
  unfold wCons wSl
  rw [h]
  exact h' _ k
theorem Ev.call {W : WF1} {dd ds : List D} {as : List AI} (ha : EvA u ρ as) (hr : ∀ k : List D → Prop, k ds → rsN ρ as k) (hW : ∀ Q : D → Prop, (∀ r, S r → Q r) → W (ds ++ dd) Q) (hf : ∀ r, S r → r.free = true) : Ev (wCall W dd u) ρ S := ⟨fun K k => ha _ (hr _ (hW _ fun r hs => ⟨fun _ => hf r hs, k r hs⟩))⟩
theorem Ev.op {g : G2} {S1 S2 : D → Prop} (h1 : Ev e1 ρ S1) (h2 : Ev e2 ρ S2) (hg : ∀ a b, S1 a → S2 b → ∀ K : D → Prop, (∀ d, S d → K d) → g a b K) : Ev (wOp g (wOf e1) (wOf e2)) ρ S := ⟨fun K k =>
  h1.h _ fun a ha => h2.h _ fun b hb => hg a b ha hb _ fun d hd => k d hd⟩
theorem Ev.nilT (h : S (.tup [])) : Ev (wTup wNil) ρ S := ⟨fun K k => ⟨le_sz (by simp), k _ h⟩⟩
theorem Tv.tst {b : Bool} (h : Ev e ρ (· = .bl b)) : Tv (wTst e) ρ b := fun K k => h.h _ fun d hd => by subst hd; exact k
theorem seq_ifn {D' : EV} {c : WT} {w y : WS} (h : ∀ K : Bool → Vn → Prop, K false ρ → c ρ K) (k : y D' ρ) : wSeq (wIf c w wNext) y D' ρ := h _ ⟨fun e => (by cases e), fun _ => k⟩
end Vl

namespace Vl
open PySem PySem.Spec PyProof.Rows L2 Hl
/-! ### isinstance(x, (A, B, ..)): classes of the text -/
@[simp] def wIsiOs (cs ds : List Str) (w : WO) : WE := fun ρ Q => w ρ fun a ρ1 => rs1 ρ1 a fun d => d.kn cs = true ∧ Q (.bl (ds.any fun c => d.isCl c)) ρ1
def tRefs : List (Str × Addr) → TA
  | [] => tNil
  | c :: Cs => tCons (tC (.ref c.2)) (tRefs Cs)
theorem tRefs_run : ∀ {Cs : List (Str × Addr)} {σ : L2.St} {H : Hp} {Q : List V → Hp → Prop}, Q (Cs.map fun (c : Str × Addr) => V.ref c.2) H → tRefs Cs σ H Q
  | [], _, _, _, h => h
  | c :: Cs, σ, H, Q, h => tRefs_run (Cs := Cs) (Q := fun vs H2 => Q (V.ref c.2 :: vs) H2) h
theorem refs_cls : ∀ {Cs : List (Str × Addr)}, Paired ClsV (Cs.map fun (c : Str × Addr) => V.ref c.2) (Cs.map fun (c : Str × Addr) => Value.ref c.2)
  | [] => .nil
  | c :: Cs => .cons (.own c.2) refs_cls
theorem kitAny_refs {K : PySem.W.Frag} {t : Value} {f : Str → Bool} : ∀ {Cs : List (Str × Addr)}, (∀ c ∈ Cs, PySem.W.kitOne K t (.ref c.2) = some (f c.1)) → PySem.W.kitAny K t (Cs.map fun (c : Str × Addr) => Value.ref c.2) = some ((Cs.map (·.1)).any f)
  | [], _ => rfl
  | c :: Cs, h => by
    have h1 := h c (List.mem_cons_self ..)
    have h2 := kitAny_refs (Cs := Cs) (f := f) fun U hU => h U (List.mem_cons_of_mem _ hU)
    rw [List.map_cons]
    show (match PySem.W.kitOne K t (.ref c.2) with | some true => some true | some false => PySem.W.kitAny K t (Cs.map fun (c : Str × Addr) => Value.ref c.2) | none => none) = _
    rw [h1, List.map_cons, List.any_cons]
    cases f c.1 with
    | true => rfl
    | false => exact h2
section
variable {Γ : Gx} {X : Cx} {e : Expr} {te : TE} {we : WO} {x : Str} {p pos : Pos}
theorem ve_isiOs {Cs : List (Str × Addr)} {cs : List Str} {x1 : Nat} {tpos : Pos} {es : List Expr} (hK : X.K = Γ.K) (h : VO Γ X e te we) (h2 : PA X es (tRefs Cs)) (hz : Cs.length ≤ 8) (hg : Gl X "isinstance") (hm : X.mg "isinstance" = none)
    (hI : ∀ c ∈ cs, ∀ C, Γ.mg c = some (.ref C) → IsiO Γ.K C) (hB : ∀ c ∈ Cs, ∀ S ∈ bnames, PySem.W.kitOne Γ.K (.type S) (.ref c.2) = some false) (hC : ∀ c ∈ Cs, ∀ c' ∈ cs, ∀ C', Γ.mg c' = some (.ref C') → PySem.W.kitOne Γ.K (.ref C') (.ref c.2) = some (decide (c' = c.1)))
    (he : starEach (e :: [.Tuple es x1 tpos]) X.env = (false, eval e X.env) :: starEach [.Tuple es x1 tpos] X.env := by rfl) (he2 : starEach [.Tuple es x1 tpos] X.env = (false, eval (.Tuple es x1 tpos) X.env) :: starEach [] X.env := by rfl) (hpl : (backTo pos (starEach [.Tuple es x1 tpos] X.env)).any (·.1) = false := by rfl) :
    VE Γ X (.Call (.Name "isinstance" p) [e, .Tuple es x1 tpos] [] pos) (tCB (rIsiT Γ.K) (tCons te (tCons (tTup (tRefs Cs)) tNil))) (wIsiOs cs (Cs.map (·.1)) we) :=
  ⟨pe_callB (by rw [← hK]; exact call_isiT) hg hm (by decide +kernel) (pa_cons h.pe (pa_cons (pe_tup h2) pa_nil he2) he) (by decide) (by decide) he hpl, ⟨fun {T σ ρ Q Q'} S hw q => h.se.h S hw fun v T1 a ρ1 S1 e1 r1 q1 => by
    refine tRefs_run (Cs := Cs) ⟨by rw [List.length_map, sizeLine_eq]; omega, fun tp n => ?_⟩
    have g := Gr.new (o := .tup (Cs.map fun (c : Str × Addr) => V.ref c.2)) S1.ok n
    have S2 := S1.grow g
    obtain ⟨d, r, ht, q1⟩ := S2.rs1 (r1.ext g.ext) q1
    rcases ro_kn hI S2.ok r ht with ⟨hn, S, hS, tS, ty⟩ | ⟨c, fs, C, rfl, hc, m, ty⟩
    · have hd : ∀ c, d.isCl c = false := fun c => by cases d <;> first | rfl | cases hn
      exact ⟨v, tp, _, .type S, _, _, rfl, upd_same, refs_cls, ty, kitAny_refs (f := fun c => d.isCl c) fun c hc => by rw [hB c hc S hS, hd], q (.bl _) _ _ ρ1 S2 (e1.trans g.ext) (.bl _) q1⟩
    · exact ⟨v, tp, _, .ref C, _, _, rfl, upd_same, refs_cls, ty, kitAny_refs (f := fun c' => (D.obj c fs).isCl c') fun c' hc' => hC c' hc' c hc C m, q (.bl _) _ _ ρ1 S2 (e1.trans g.ext) (.bl _) q1⟩⟩⟩
end
/-- two classes of the text, neither the other's -/
theorem kit_sub {K : PySem.W.Frag} {C' C : Addr} (h4 : PySem.W.mroIn K C (.type "object") = some true) (ht : PySem.W.typeIn K (.ref C) = some (.type "type")) (hs : PySem.W.subIn K (.ref C) (.ref C) = some true) (h : PySem.W.subIn K (.ref C') (.ref C) = some false) : PySem.W.kitOne K (.ref C') (.ref C) = some false := by
  unfold PySem.W.kitOne
  by_cases e : C' = C
  · subst e
    rw [hs] at h
    cases h
  · have ne : ((Value.ref C' : Value) == .ref C) = false := by
      rw [beq_eq_false_iff_ne]
      intro z
      injection z with z
      exact e z
    rw [ne, if_neg Bool.false_ne_true]
    have hb : ((PySem.W.clsIn K C).isSome && PySem.W.typeIn K (.ref C) == some (.type "type")) = true := by
      unfold PySem.W.mroIn at h4
      cases e : PySem.W.clsIn K C with
      | none => rw [e] at h4; cases h4
      | some cd => rw [ht]; rfl
    show (if ((PySem.W.clsIn K C).isSome && PySem.W.typeIn K (.ref C) == some (.type "type")) = true then PySem.W.subIn K (.ref C') (.ref C) else none) = some false
    rw [if_pos hb]
    exact h
end Vl

namespace Vl
open PySem PySem.Spec PyProof.Rows L2 Hl
/-! ### sorted(dict), its keys ints -/
def keysI : List (Key × D) → Option (List Int)
  | [] => some []
  | (.inl i, _) :: l => (keysI l).map (i :: ·)
  | (.inr _, _) :: _ => none
def rSortedDI : List V → Hp → VK → Prop := fun xs H Q => ∃ (a : Addr) (kvs : List (Key × V)) (ks : List Int), xs = [.ref a] ∧ Rd H a (.dK kvs) ∧ kvs.map (·.1) = ks.map Sum.inl ∧ ks.length < 64 ∧ ∀ (ys : List Int) (p : Addr), ys.Perm ks → ys.Pairwise (· ≤ ·) → H p = none → Q (.ref p) (upd H p (.lst (ys.map V.int)))
@[simp] def fSortedD : FN
  | [.dct l], k => oK (keysI l) fun ks => ks.length < 64 ∧ k ((sortI ks).map D.int)
  | _, _ => False
theorem cr_sortedDI' {X : Cx} (hc : X.calm = true) : CallR X (.builtin "sorted") rSortedDI := call_sortedDI hc
theorem RK.keys {Γ : Gx} {H0 Hd : Hp} : ∀ {vs : List (Key × V)} {l : List (Key × D)} {ks : List Int}, RK Γ H0 Hd vs l → keysI l = some ks → vs.map (·.1) = ks.map Sum.inl
  | _, _, _, .nil, h => by cases h; rfl
  | _, _, _, .cons (k := k) (l := l) _ t, h => by
    cases k with
    | inl i =>
      simp only [keysI] at h
      cases e : keysI l with
      | none => rw [e] at h; cases h
      | some ks =>
        rw [e] at h
        cases h
        rw [List.map_cons, List.map_cons, t.keys e]
    | inr z => cases h
section
variable {Γ : Gx}
theorem csf_sortedD : CSF Γ rSortedDI fSortedD := ⟨fun {T xs as Q Q'} ok r h q => by
  unfold fSortedD at h
  split at h
  · rename_i k l
    obtain ⟨v, rfl, r'⟩ := r.one
    obtain ⟨ks, e, hn, h'⟩ := oK_of h
    have go : ∀ {H0' : Hp} {p : Addr} {vs : List (Key × V)}, T.H p = some (.dK vs) → RK Γ T.H0 T.Hd vs l → v = .ref p → rSortedDI [v] T.H Q' := fun hp rk ev => by
      subst ev
      refine ⟨_, _, ks, rfl, Rd.of hp, rk.keys e, hn, fun ys p h1 h2 n => ?_⟩
      rw [perm_sorted_eq (h1.trans (sortI_perm ks).symm) h2 (sortI_sorted ks)]
      exact q p _ _ n (ra_ints _) h'
    cases r' with
    | di hp rk => exact go (H0' := T.H0) hp rk rfl
    | sh r' =>
      cases r' with
      | dct hp rk => exact go (H0' := T.H0) (ok.s0 _ _ hp) rk rfl
  · exact h.elim⟩
end
end Vl

namespace Vl
open PySem PySem.Spec PyProof.Rows L2 Hl
/-! ### comprehensions whose items are not known but by what holds of them -/
inductive Al {α : Type} (S : α → D → Prop) : List α → List D → Prop
  | nil : Al S [] []
  | cons {a : α} {d : D} {l : List α} {ds : List D} : S a d → Al S l ds → Al S (a :: l) (d :: ds)
theorem Al.len {α : Type} {S : α → D → Prop} : ∀ {l : List α} {ds : List D}, Al S l ds → ds.length = l.length
  | _, _, .nil => rfl
  | _, _, .cons _ t => by rw [List.length_cons, List.length_cons, t.len]
theorem Al.get {α : Type} {S : α → D → Prop} : ∀ {l : List α} {ds : List D}, Al S l ds → ∀ {i : Nat} {d : D}, ds[i]? = some d → ∃ a, l[i]? = some a ∧ S a d
  | _, _, .nil, _, _, h => by simp at h
  | _, _, .cons s t, 0, _, h => by simp at h; subst h; exact ⟨_, rfl, s⟩
  | _, _, .cons s t, i + 1, _, h => by simpa using t.get (by simpa using h)
theorem Al.all {α : Type} {S : α → D → Prop} {P : D → Prop} (h : ∀ a d, S a d → P d) : ∀ {l : List α} {ds : List D}, Al S l ds → ∀ d ∈ ds, P d
  | _, _, .nil, _, m => by cases m
  | _, _, .cons s t, d, m => by
    rcases List.mem_cons.1 m with rfl | m
    · exact h _ _ s
    · exact t.all h d m
/-- items that are told by other data -/
theorem Al.map {α β : Type} {S : α → D → Prop} {enc : β → D} {T : α → β → Prop} (h : ∀ a d, S a d → ∃ b, d = enc b ∧ T a b) : ∀ {l : List α} {ds : List D}, Al S l ds → ∃ bs : List β, ds = bs.map enc ∧ ∀ b ∈ bs, ∃ a ∈ l, T a b
  | _, _, .nil => ⟨[], rfl, fun _ h => by cases h⟩
  | _, _, .cons s t => by
    obtain ⟨bs, e, g⟩ := t.map h
    obtain ⟨b, e2, hb⟩ := h _ _ s
    refine ⟨b :: bs, by rw [e, e2]; rfl, fun x hx => ?_⟩
    rcases List.mem_cons.1 hx with rfl | hx
    · exact ⟨_, List.mem_cons_self .., hb⟩
    · obtain ⟨a, ha, hT⟩ := g x hx
      exact ⟨a, List.mem_cons_of_mem _ ha, hT⟩
theorem lc_rel {α : Type} (enc : α → D) (S : α → D → Prop) {i : Nat} {w : WE} {ρ : Vn} {Q : List D → Vn → Prop} : ∀ (l : List α) (acc : List D),
    (∀ a ∈ l, ∀ A : D → Vn → Prop, (∀ d, S a d → A d (ρ.set i (.val (enc a)))) → w (ρ.set i (.val (enc a))) A) → ρ.set i .no = ρ → acc.length + l.length ≤ sizeLine → (∀ out : List D, Al S l out → Q (acc ++ out) ρ) → lcV (gV i) wYes w [i] (l.map enc) acc ρ Q
  | [], acc, _, _, _, h => by simpa using h [] .nil
  | a :: l, acc, hs, h0, hz, h => by
    rw [List.map_cons]
    rw [List.length_cons] at hz
    refine ⟨fun _ => hs a (List.mem_cons_self ..) _ fun d hd => ⟨by omega, ?_⟩, fun z => by cases z⟩
    have e : wipeV (ρ.set i (.val (enc a))) [i] = ρ := by simp [wipeV, h0]
    rw [e]
    refine lc_rel enc S l (acc ++ [d]) (fun b hb => hs b (List.mem_cons_of_mem _ hb)) h0 (by rw [List.length_append, List.length_singleton]; omega) fun out ho => ?_
    have := h (d :: out) (.cons hd ho)
    simpa using this
/-- a list with a test, its items in sequence -/
theorem asc_filter {l : List Int} {p : Int → Bool} (h : l.Pairwise (· < ·)) : (l.filter p).Pairwise (· < ·) := h.sublist (List.filter_sublist ..)
theorem rl_asc (n : Nat) : (rl n).Pairwise (· < ·) := by
  rw [rl, List.pairwise_map]
  exact List.Pairwise.imp (fun {a b} h => by omega) (List.pairwise_lt_range (n := n))
/-! places of told lists -/
@[simp] theorem atI_l0 {l : List D} {x0 : D} : atI (x0 :: l) 0 = some x0 := by
  have e : atI (x0 :: l) ((0 : Nat) : Int) = some x0 := atI_nat rfl
  exact e
@[simp] theorem atI_l1 {l : List D} {x0 x1 : D} : atI (x0 :: x1 :: l) 1 = some x1 := by
  have e : atI (x0 :: x1 :: l) ((1 : Nat) : Int) = some x1 := atI_nat rfl
  exact e
@[simp] theorem atI_l2 {l : List D} {x0 x1 x2 : D} : atI (x0 :: x1 :: x2 :: l) 2 = some x2 := by
  have e : atI (x0 :: x1 :: x2 :: l) ((2 : Nat) : Int) = some x2 := atI_nat rfl
  exact e
@[simp] theorem atI_l3 {l : List D} {x0 x1 x2 x3 : D} : atI (x0 :: x1 :: x2 :: x3 :: l) 3 = some x3 := by
  have e : atI (x0 :: x1 :: x2 :: x3 :: l) ((3 : Nat) : Int) = some x3 := atI_nat rfl
  exact e
@[simp] theorem atI_l4 {l : List D} {x0 x1 x2 x3 x4 : D} : atI (x0 :: x1 :: x2 :: x3 :: x4 :: l) 4 = some x4 := by
  have e : atI (x0 :: x1 :: x2 :: x3 :: x4 :: l) ((4 : Nat) : Int) = some x4 := atI_nat rfl
  exact e
@[simp] theorem atI_l5 {l : List D} {x0 x1 x2 x3 x4 x5 : D} : atI (x0 :: x1 :: x2 :: x3 :: x4 :: x5 :: l) 5 = some x5 := by
  have e : atI (x0 :: x1 :: x2 :: x3 :: x4 :: x5 :: l) ((5 : Nat) : Int) = some x5 := atI_nat rfl
  exact e
@[simp] theorem atI_l6 {l : List D} {x0 x1 x2 x3 x4 x5 x6 : D} : atI (x0 :: x1 :: x2 :: x3 :: x4 :: x5 :: x6 :: l) 6 = some x6 := by
  have e : atI (x0 :: x1 :: x2 :: x3 :: x4 :: x5 :: x6 :: l) ((6 : Nat) : Int) = some x6 := atI_nat rfl
  exact e
@[simp] theorem atI_l7 {l : List D} {x0 x1 x2 x3 x4 x5 x6 x7 : D} : atI (x0 :: x1 :: x2 :: x3 :: x4 :: x5 :: x6 :: x7 :: l) 7 = some x7 := by
  have e : atI (x0 :: x1 :: x2 :: x3 :: x4 :: x5 :: x6 :: x7 :: l) ((7 : Nat) : Int) = some x7 := atI_nat rfl
  exact e
@[simp] theorem atI_l8 {l : List D} {x0 x1 x2 x3 x4 x5 x6 x7 x8 : D} : atI (x0 :: x1 :: x2 :: x3 :: x4 :: x5 :: x6 :: x7 :: x8 :: l) 8 = some x8 := by
  have e : atI (x0 :: x1 :: x2 :: x3 :: x4 :: x5 :: x6 :: x7 :: x8 :: l) ((8 : Nat) : Int) = some x8 := atI_nat rfl
  exact e
@[simp] theorem atI_l9 {l : List D} {x0 x1 x2 x3 x4 x5 x6 x7 x8 x9 : D} : atI (x0 :: x1 :: x2 :: x3 :: x4 :: x5 :: x6 :: x7 :: x8 :: x9 :: l) 9 = some x9 := by
  have e : atI (x0 :: x1 :: x2 :: x3 :: x4 :: x5 :: x6 :: x7 :: x8 :: x9 :: l) ((9 : Nat) : Int) = some x9 := atI_nat rfl
  exact e
@[simp] theorem cut_l1 {l : List D} : cutD l (some 1) none = l.drop 1 := cut_drop' (i := 1) (by decide)
@[simp] theorem cut_l2 {l : List D} : cutD l (some 2) none = l.drop 2 := cut_drop' (i := 2) (by decide)
@[simp] theorem cut_l3 {l : List D} : cutD l (some 3) none = l.drop 3 := cut_drop' (i := 3) (by decide)
@[simp] theorem cut_l4 {l : List D} : cutD l (some 4) none = l.drop 4 := cut_drop' (i := 4) (by decide)
@[simp] theorem cut_l5 {l : List D} : cutD l (some 5) none = l.drop 5 := cut_drop' (i := 5) (by decide)
@[simp] theorem cut_l6 {l : List D} : cutD l (some 6) none = l.drop 6 := cut_drop' (i := 6) (by decide)
@[simp] theorem cut_l7 {l : List D} : cutD l (some 7) none = l.drop 7 := cut_drop' (i := 7) (by decide)
@[simp] theorem eqv_str {a b : Str} : (D.str a).eqv (.str b) = decide (a = b) := by
  unfold D.eqv
  rw [D.pd, D.pd, PyData.eqv]
  rw [Bool.eq_iff_iff, beq_iff_eq, decide_eq_true_eq]
theorem f_mem {α : Type} {l : List α} {f : α → Bool} : (false ∈ l.map f) = (l.all f = false) := by
  apply propext
  rw [List.mem_map, List.all_eq_false]
  exact ⟨fun ⟨x, h, e⟩ => ⟨x, h, by simp [e]⟩, fun ⟨x, h, e⟩ => ⟨x, h, by simpa using e⟩⟩
theorem t_mem {α : Type} {l : List α} {f : α → Bool} : (true ∈ l.map f) = (l.any f = true) := by
  apply propext
  rw [List.mem_map, List.any_eq_true]
end Vl

namespace Vl
open PySem PySem.Spec PyProof.Rows L2 Hl
/-! ### a, b = x, x a tuple or a list -/
def gSq (K : PySem.W.Frag) (n : Nat) (t : TGs) : TG := fun v σ H Q => gTup K n t v σ H Q ∨ gLst K n t v σ H Q
@[simp] def gSeqV (n : Nat) (u : WGs) : WG := fun d ρ Q => match d with
  | .tup l => l.length = n ∧ u l ρ Q
  | .lst l => l.length = n ∧ u l ρ Q
  | _ => False
theorem rev_neg (σ : L2.St) (H : Hp) : tPart (tUn (rU fun i => .int (-i)) (tC (.int 1))) σ H (fun o H2 => o = some (-1) ∧ H2 = H) := ⟨1, rfl, -1, rfl, rfl, rfl⟩
section
variable {Γ : Gx} {X : Cx} {pos : Pos}
theorem kpg_sq {K : PySem.W.Frag} {es : List Expr} {k : Nat} {t : TGs} {n : Nat} (h : X.K = K) (hc : X.calm = true) (hp : PGs X es t) (hn : (assignEach es X.env).length = n) (hst : (assignEach es X.env).findIdx? (·.1) = none) : PG X (.Tuple es k pos) (gSq K n t) := by
  subst h
  exact ⟨fun pins s σ H v u Q i r h => h.elim (fun h => (pg_tup hc hp hn hst).run pins s σ H v u Q i r h) (fun h => (pg_lst hc hp hn hst).run pins s σ H v u Q i r h)⟩
theorem gSeqV_ok {u : TGs} {ts : List Nat} {n : Nat} {z : WGs} (h : SGs Γ u ts z) : SG Γ (gSq Γ.K n u) ts (gSeqV n z) := ⟨fun {T σ ρ v d Q Q'} S r hw q => by
  cases d <;> first | exact hw.elim | skip
  · cases r with
    | tup hs ra => exact .inl ⟨_, _, rfl, tT S.ok.s0 hs, by rw [ra.len]; exact hw.1, h.h S ra hw.2 q⟩
  · cases r with
    | lst hs ra => exact .inr ⟨_, _, rfl, SqL.of (S.ok.s0 _ _ hs), by rw [ra.len]; exact hw.1, h.h S ra hw.2 q⟩⟩
theorem vg_sq {es : List Expr} {k : Nat} {u : TGs} {ts : List Nat} {n : Nat} {z : WGs} (hK : X.K = Γ.K) (hc : X.calm = true) (h : VGs Γ X es u ts z) (hn : (assignEach es X.env).length = n := by rfl) (hst : (assignEach es X.env).findIdx? (·.1) = none := by rfl) : VG Γ X (.Tuple es k pos) (gSq Γ.K n u) ts (gSeqV n z) := ⟨kpg_sq hK hc h.pe hn hst, gSeqV_ok h.se⟩
end
theorem lc_relD (S : D → D → Prop) {i : Nat} {w : WE} {ρ : Vn} {Q : List D → Vn → Prop} (l : List D) (acc : List D)
    (hs : ∀ a ∈ l, ∀ A : D → Vn → Prop, (∀ d, S a d → A d (ρ.set i (.val a))) → w (ρ.set i (.val a)) A) (h0 : ρ.set i .no = ρ) (hz : acc.length + l.length ≤ sizeLine) (h : ∀ out : List D, Al S l out → Q (acc ++ out) ρ) : lcV (gV i) wYes w [i] l acc ρ Q := by
  have := lc_rel (fun d : D => d) S (i := i) (w := w) (ρ := ρ) (Q := Q) l acc hs h0 hz h
  rwa [List.map_id'] at this
end Vl

namespace Vl
open PySem PySem.Spec PyProof.Rows L2 Hl
/-! ### t * 0, t * 1 of a tuple -/
theorem tuple_mul1 (l : Addr) (items : Array Value) (n : Nat) (dd : Option Addr) (sl : Array (Option Value)) (u : Tok) :
    Meets (Builtin.«tuple.__mul__» { pos := [Value.ref l, Value.int 1 u] }) fun x R s => s.heap.get? l = some { cls := Value.type "tuple", dict := dd, data := Data.seq items n, slots := sl } ∧ R (Except.ok (Flow.ret (.ref l))) s := by
  refine Meets.of_wp fun prog w A R s h => ?_
  obtain ⟨hp, g, d, tk, os⟩ := s
  obtain ⟨hl, hR⟩ := h
  show wpAny (model prog w) A.in1 (asIndex (.int 1 u) >>= _) _ _ _
  refine wpAny_bind ?_
  show wpAny (model prog w) A.in1 (asInt? (.int 1 u) >>= _) _ _ _
  refine wpAny_bind (wpAny_pure (wpAny_pure ?_))
  show wpAny (model prog w) A.in1 (Builtin.Tuple.tupleItemsOf (.ref l) >>= _) _ _ _
  refine wpAny_bind ?_
  show wpAny (model prog w) A.in1 (seqItems? (.ref l) >>= _) _ _ _
  refine wpAny_bind ?_
  show wpAny (model prog w) A.in1 (load l >>= _) _ _ _
  refine wpAny_bind (wpAny_load' hl (wpAny_pure (wpAny_pure ?_)))
  refine wpAny_ite_true (by simp) ?_
  refine wpAny_bind ?_
  show wpAny (model prog w) A.in1 (typeOf (.ref l) >>= _) _ _ _
  refine wpAny_bind (wpAny_typeOf ⟨_, hl, rfl⟩ (wpAny_pure ?_))
  refine wpAny_ite_true (by simp) ?_
  refine wpAny_bind (wpAny_rule (wpAny_pure ?_))
  exact ⟨_, rfl, hR⟩
theorem tuple_mul0 (l : Addr) (items : Array Value) (n : Nat) (dd : Option Addr) (sl : Array (Option Value)) (u : Tok) (hne : items.isEmpty = false) :
    Meets (Builtin.«tuple.__mul__» { pos := [Value.ref l, Value.int 0 u] }) fun x R s => s.heap.get? l = some { cls := Value.type "tuple", dict := dd, data := Data.seq items n, slots := sl } ∧ R (Except.ok (Flow.ret (.ref s.heap.objs.size))) { s with heap := s.heap.push { cls := Value.type "tuple", data := Data.seq #[] } } := by
  refine Meets.of_wp fun prog w A R s h => ?_
  obtain ⟨hp, g, d, tk, os⟩ := s
  obtain ⟨hl, hR⟩ := h
  show wpAny (model prog w) A.in1 (asIndex (.int 0 u) >>= _) _ _ _
  refine wpAny_bind ?_
  show wpAny (model prog w) A.in1 (asInt? (.int 0 u) >>= _) _ _ _
  refine wpAny_bind (wpAny_pure (wpAny_pure ?_))
  show wpAny (model prog w) A.in1 (Builtin.Tuple.tupleItemsOf (.ref l) >>= _) _ _ _
  refine wpAny_bind ?_
  show wpAny (model prog w) A.in1 (seqItems? (.ref l) >>= _) _ _ _
  refine wpAny_bind ?_
  show wpAny (model prog w) A.in1 (load l >>= _) _ _ _
  refine wpAny_bind (wpAny_load' hl (wpAny_pure (wpAny_pure ?_)))
  refine wpAny_ite_false (by simp [hne]) ?_
  refine wpAny_ite_true (by simp) ?_
  refine wpAny_bind (m := Builtin.Tuple.tupleExact _) (wpAny_newObj_type (wpAny_pure ⟨_, rfl, hR⟩))

def rRepT01 (K : PySem.W.Frag) : R2 := fun x y H Q => ∃ l k xs, x = .ref l ∧ y = .int k ∧ SqT K H l xs ∧ xs ≠ [] ∧ ((k = 1 ∧ Q (.ref l) H) ∨ (k = 0 ∧ ∀ p, H p = none → Q (.ref p) (upd H p (.tup []))))
theorem op_repT01 {X : Cx} : OpR X (binaryOp .Mult) (rRepT01 X.K) := by
  intro pins s σ H x y v u Q I rx ry h
  obtain ⟨l, k, xs, rfl, rfl, hl, hne, q⟩ := h
  cases rx
  obtain ⟨tok, rfl⟩ := ry
  obtain ⟨its, r1, p1, hz⟩ := I.tuple hl
  obtain ⟨⟨cls, dd, data, sl⟩, ho, hc, n, hd⟩ := id p1
  simp only at hc hd
  subst hc hd
  have hie : its.toArray.isEmpty = false := by
    have := r1.length
    cases its with
    | nil => cases xs with
      | nil => exact absurd rfl hne
      | cons _ _ => simp at this
    | cons a b => simp
  refine wpAny_binaryOp_repeat_ref (T := "tuple") (U := "int") (by decide +kernel) ⟨_, ho, rfl⟩ (fun _ => rfl) noFill_tuple_mul PySem.F.fills_int_mul PySem.F.slot_int_rmul repeat_tuple AutoSeq1.idx_int ?_
  refine call_meets PySem.F.slot_int_rmul (by rfl) PySem.F.entry_int_rmul (PySem.F.args_int_rmul_2 _ _) (int_rmul_tuple k tok l its.toArray n dd sl) ⟨ho, ?_⟩
  refine ⟨rfl, ⟨_, ho, rfl⟩, ?_⟩
  rcases q with ⟨rfl, q⟩ | ⟨rfl, q⟩
  · exact call_meets PySem.F.slot_tuple_mul ⟨_, ho, rfl⟩ PySem.F.entry_tuple_mul (PySem.F.args_tuple_mul_2 _ _) (tuple_mul1 l its.toArray n dd sl tok) ⟨ho, .ref l, H, I, rfl, q⟩
  · refine call_meets PySem.F.slot_tuple_mul ⟨_, ho, rfl⟩ PySem.F.entry_tuple_mul (PySem.F.args_tuple_mul_2 _ _) (tuple_mul0 l its.toArray n dd sl tok hie) ⟨ho, .ref _, _, I.laid (t' := s.toks) (o := .tup []) (fun b ob q => Heap.get?_push_of_some _ q) (Nat.le_refl _) ?_, rfl, q _ (I.hok.fresh (Nat.le_refl _))⟩
    exact ⟨by simp, _, .nil, IsTup.new _ _⟩
abbrev rMulQ (K : PySem.W.Frag) : R2 := fun x y H Q => rMulP K x y H Q ∨ rRepT01 K x y H Q
theorem op_mulQ {X : Cx} {K : PySem.W.Frag} (h : X.K = K) : OpR X (binaryOp .Mult) (rMulQ K) := by subst h; exact opr_or (op_mulP rfl) op_repT01
/-- a tuple so many times, 0 and 1 too -/
@[simp] def gMulQ : G2
  | .int i, .int j, k => CMulW i j ∧ k (.int (i * j))
  | .lst l, .int j, k => (-(2 ^ 63) ≤ j ∧ j < 2 ^ 63 ∧ l.length * j.toNat ≤ sizeLine) ∧ k (.lst (repD l j.toNat))
  | .tup l, .int j, k => (l ≠ [] ∧ 0 ≤ j ∧ j ≤ 1000 ∧ l.length ≤ 1000) ∧ k (.tup (repD l j.toNat))
  | _, _, _ => False
theorem os_mulQ {Γ : Gx} : OS Γ (rMulQ Γ.K) gMulQ := ⟨fun {T x y a b Q Q'} ok rx ry h q => by
  cases a <;> cases b <;> first | exact h.elim | skip
  · exact .inl (os_mul.h ok rx ry (by exact h) q)
  · rename_i l j
    obtain ⟨⟨h1, h2, h3, h4⟩, h⟩ := h
    by_cases hj : 2 ≤ j
    · exact .inl (os_mul.h ok rx ry (by exact ⟨⟨h1, hj, h3, h4⟩, h⟩) q)
    · have rr : R Γ T.H0 T.Hd x (.tup l) := by cases rx with | sh h => exact h
      obtain ⟨p, vs, rfl, hp, rp⟩ := rx.tup ok
      cases ry.int
      have hv : vs ≠ [] := fun z => h1 (by subst z; cases rp; rfl)
      rcases (by omega : j = 0 ∨ j = 1) with rfl | rfl
      · exact .inr ⟨p, 0, vs, rfl, rfl, hp, hv, .inr ⟨rfl, fun a n => gr_new ok q n (r_tup ok n .nil) h⟩⟩
      · have e : repD l (1 : Int).toNat = l := by simp [repD]
        rw [e] at h
        exact .inr ⟨p, 1, vs, rfl, rfl, hp, hv, .inl ⟨rfl, gr_sc ok q rr h⟩⟩
  · exact .inl (os_mul.h ok rx ry (by exact h) q)⟩
end Vl

namespace Vl
open PySem PySem.Spec PyProof.Rows L2 Hl
/-! ### defs that give back a list of one's own -/
abbrev WFL := List D → (List D → Prop) → Prop
abbrev WSL := Vn → (List D → Prop) → Prop
def spL (Γ : Gx) (W : WFL) : Sp := fun vs H Q _ => ∃ T ds P, T.H = H ∧ T.Ok ∧ RA Γ T.H0 T.Hd vs ds ∧ W ds P ∧ ∀ p us T' l, T'.Ok → Ext Γ T T' → T'.H p = some (.lst us) → T'.F p = none → T'.H0 p = none → T'.Hd p = none → RA Γ T'.H0 T'.Hd us l → P l → Q (.ref p) T'.H
structure SSL (Γ : Gx) (t : TS) (w : WSL) : Prop where
  h : ∀ {T : Wo} {σ : L2.St} {ρ : Vn} {Q : List D → Prop} {D' : Ends}, Sv Γ T σ ρ → w ρ Q →
    (∀ p us T' l, T'.Ok → Ext Γ T T' → T'.H p = some (.lst us) → T'.F p = none → T'.H0 p = none → T'.Hd p = none → RA Γ T'.H0 T'.Hd us l → Q l → D'.rt (.ref p) T'.H) → t D' σ T.H
structure VBL (Γ : Gx) (X : Cx) (sts : List Stmt) (t : TS) (w : WSL) : Prop where
  pe : PSs X sts t
  se : SSL Γ t w
@[simp] def wSeqL (w : WS) (z : WSL) : WSL := fun ρ Q => w { nx := fun ρ' => z ρ' Q, rt := fun _ => False } ρ
@[simp] def wRetL (i : Nat) : WSL := fun ρ Q => cOwn (ρ.getD i .no) Q
@[simp] def wDefL (n m : Nat) (b : WSL) : WFL := fun ds Q => ds.length = n ∧ b (ds.map Cell.val ++ List.replicate (m - n) .no) Q
@[simp] def wCallL (W : WFL) (dd : List D) (w : WA) : WF := fun ρ Q => w ρ fun as ρ1 => rsN ρ1 as fun ds => W (ds ++ dd) fun l => (as.any (isO ρ1) = true → D.freeL l = true) ∧ Q l ρ1
section
variable {Γ : Gx} {X : Cx} {T : Wo} {σ : L2.St} {ρ : Vn} {st : Stmt} {rest : List Stmt} {t u : TS} {w : WS} {z : WSL}
theorem vbl_cons (h : VS Γ X st t w) (h' : VBL Γ X rest u z) : VBL Γ X (st :: rest) (tSeq t u) (wSeqL w z) := ⟨pss_cons h.pe h'.pe, ⟨fun {T σ ρ Q D'} S hw q =>
  h.se.h S hw (fun T1 σ1 ρ1 S1 e1 q1 => h'.se.h S1 q1 fun p us T2 l o2 e2 a b c d r q2 => q p us T2 l o2 (e1.trans e2) a b c d r q2) (fun _ _ _ _ _ _ h => h.elim) (fun _ _ _ _ _ h => h.elim) (fun _ _ _ _ _ h => h.elim)⟩⟩
theorem vbl_ret {i : Nat} {e : Expr} {pos : Pos} (h : PE X e (tVar i)) : VBL Γ X [.Return (some e) pos] (tRet (tVar i)) (wRetL i) := ⟨pss_one (ps_ret h), ⟨fun {T σ ρ Q D'} S hw q => by
  have hw : cOwn (ρ.getD i .no) Q := hw
  cases e : ρ.getD i .no with
  | own l =>
    rw [e] at hw
    obtain ⟨s, e1, p, vs, e2, e3, r, n1, n2, n3⟩ := S.cell i _ (getD_of e (by simp))
    subst e2
    exact ⟨_, e1, q p vs T l S.ok .refl e3 n1 n2 n3 r hw⟩
  | _ => rw [e] at hw; exact hw.elim⟩⟩
theorem okL {N : List Str} {body : List Stmt} {b : WSL} {vs : List V} {H : Hp} {Q : VK} {E : XK} {n m : Nat} (hN : N.length = m) (hb : VBL Γ X body t b) (h : spL Γ (wDefL n m b) vs H Q E) :
    ∃ t, PSs X body t ∧ t { nx := fun _ H' => Q .non H', rt := Q } (L2.start N vs) H := by
  obtain ⟨T, ds, P, rfl, ok, ra, ⟨hl, hw⟩, q⟩ := h
  subst hl hN
  exact ⟨t, hb.pe, hb.se.h (start_sv ok ra) hw q⟩
theorem spL_len {W : WFL} {n : Nat} {vs : List V} {H : Hp} {Q : VK} {E : XK} (hW : ∀ {ds P}, W ds P → ds.length = n) (h : spL Γ W vs H Q E) : vs.length = n := by
  obtain ⟨T, ds, P, rfl, ok, ra, hw, q⟩ := h
  rw [ra.len]; exact hW hw
theorem ra_free {H0 H0' Hd : Hp} {L : Addr → Prop} (hL : ∀ b, L b → ∃ o, H0 b = some o ∧ ((∃ vs, o = .lst vs) ∨ ∃ vs, o = .dK vs)) (hn : ∀ b, ¬ L b → H0' b = H0 b) : ∀ {vs : List V} {l : List D}, RA Γ H0 Hd vs l → D.freeL l = true → RA Γ H0' Hd vs l
  | _, _, .nil, _ => .nil
  | _, _, .cons (d := d) (l := l) h t, f => by
    have f : (d.free && D.freeL l) = true := f
    rw [Bool.and_eq_true] at f
    exact .cons (free_sub hL hn h f.1) (ra_free hL hn t f.2)
theorem Sv.callL {as : List AI} {vs : List V} {dv : List V} {dd : List D} {W : WFL} {Q : List D → Prop} {Q' : VK} {E : XK} (S : Sv Γ T σ ρ) (ha : ARs Γ T σ vs as) (hd : ∀ H0 Hd, RA Γ H0 Hd dv dd)
    (h : Vl.rsN ρ as fun ds => W (ds ++ dd) fun l => (as.any (isO ρ) = true → D.freeL l = true) ∧ Q l) (q : ∀ p us T' l, Sv Γ T' σ ρ → Ext Γ T T' → T'.H p = some (.lst us) → T'.F p = none → T'.H0 p = none → T'.Hd p = none → (∀ (j : Nat) (c : Cell), ρ[j]? = some c → c.priv = true → σ[j]? ≠ some (some (.ref p))) → RA Γ T'.H0 T'.Hd us l → Q l → Q' (.ref p) T'.H) : spL Γ W (vs ++ dv) T.H Q' E := by
  obtain ⟨ds, ra, h⟩ := lent_args (as0 := as) S (fun _ h => h) ha h
  have hz : ∀ {b x}, lentH T σ ρ as b = some x → T.H b = some x ∧ T.Hd b = none := fun {b x} e => by
    by_cases hl : Lent σ ρ as b
    · rw [lentH_yes hl] at e; exact ⟨e, (hl.at S).choose_spec.2.2.2⟩
    · rw [lentH_no hl] at e; exact ⟨S.ok.s0 _ _ e, S.ok.zd e⟩
  refine ⟨⟨frH (lentH T σ ρ as) T.Hd T.H, lentH T σ ρ as, T.Hd, T.H, fun _ => False⟩, ds ++ dd, _, rfl, ⟨fun b x e => (frH_some e).2.2, fun b x e => (hz e).1, S.ok.sd, fun {b x} e => (frH_some e).1, fun {b x} e => (frH_some e).2.1, fun {b x} e => (hz e).2, frH_nt, S.ok.dt⟩, ra.app (hd _ _), h, ?_⟩
  intro p us T' l ok e hp pF p0 pd r hQ
  have sL : Same (lentH T σ ρ as) T'.H0 := e.s0
  have fF : ∀ {b x}, (∀ us, x ≠ .tup us) → T.H b = some x → T.H0 b = none → T.Hd b = none → ¬ Lent σ ρ as b → T'.F b = some x := fun {b x} nt e1 e2 e3 e4 => by
    rw [e.f]
    show frH (lentH T σ ρ as) T.Hd T.H b = some x
    exact frH_yes (by rw [lentH_no e4]; exact e2) e3 e1 nt
  have lL : ∀ {b}, Lent σ ρ as b → ∃ us, T.H b = some us ∧ ((∃ vs, us = .lst vs) ∨ ∃ vs, us = .dK vs) ∧ T.H0 b = none ∧ T.Hd b = none ∧ T'.H0 b = some us := fun {b} hl => by
    obtain ⟨us, h1, hk, h2, h3⟩ := hl.at S
    exact ⟨us, h1, hk, h2, h3, sL _ _ (by rw [lentH_yes hl]; exact h1)⟩
  have np : ∀ {x}, (∀ us, x ≠ .tup us) → T.H p = some x → T.H0 p = none → T.Hd p = none → False := fun {x} nt e1 e2 e3 => by
    by_cases hl : Lent σ ρ as p
    · obtain ⟨us, _, _, _, _, h4⟩ := lL hl
      rw [p0] at h4; cases h4
    · have := fF nt e1 e2 e3 hl
      rw [pF] at this; cases this
  let H0n : Hp := fun b => open Classical in if Lent σ ρ as b then T.H0 b else T'.H0 b
  have ny : ∀ {b}, Lent σ ρ as b → H0n b = none := fun {b} hl => by
    show (open Classical in if Lent σ ρ as b then T.H0 b else T'.H0 b) = none
    rw [if_pos hl]; exact (hl.at S).choose_spec.2.2.1
  have nn : ∀ {b}, ¬ Lent σ ρ as b → H0n b = T'.H0 b := fun {b} hl => by
    show (open Classical in if Lent σ ρ as b then T.H0 b else T'.H0 b) = _
    rw [if_neg hl]
  have Fout : ∀ {b x}, T.F b = some x → T'.H b = some x ∧ H0n b = none ∧ T'.Hd b = none := fun {b x} eF => by
    by_cases hl : Lent σ ρ as b
    · obtain ⟨us, h1, _, h2, h3, h4⟩ := lL hl
      have h5 := S.ok.sF _ _ eF
      rw [h1] at h5; cases h5
      exact ⟨ok.s0 _ _ h4, ny hl, ok.zd h4⟩
    · have h5 := fF (fun us z => S.ok.ft (z ▸ eF)) (S.ok.sF _ _ eF) (S.ok.F0 eF) (S.ok.Fd eF) hl
      exact ⟨ok.sF _ _ h5, by rw [nn hl]; exact ok.F0 h5, ok.Fd h5⟩
  have okn : Wo.Ok ⟨T.F, H0n, T'.Hd, T'.H, T.P⟩ := by
    refine ⟨fun b x e => (Fout e).1, fun b x e => ?_, ok.sd, fun {b x} e => (Fout e).2.1, fun {b x} e => (Fout e).2.2, fun {b x} e => ?_, S.ok.ft, ok.dt⟩
    · by_cases hl : Lent σ ρ as b
      · dsimp only at e; rw [ny hl] at e; cases e
      · dsimp only at e; rw [nn hl] at e; exact ok.s0 _ _ e
    · by_cases hl : Lent σ ρ as b
      · dsimp only at e; rw [ny hl] at e; cases e
      · dsimp only at e; rw [nn hl] at e; exact ok.zd e
  have s0n : Same T.H0 H0n := fun b x e => by
    by_cases hl : Lent σ ρ as b
    · rw [(hl.at S).choose_spec.2.2.1] at e; cases e
    · rw [nn hl]; exact sL _ _ (by rw [lentH_no hl]; exact e)
  have S' : Sv Γ ⟨T.F, H0n, T'.Hd, T'.H, T.P⟩ σ ρ := S.after okn s0n e.da fun p x nt h1 h2 h3 => by
    by_cases hl : Lent σ ρ as p
    · obtain ⟨us, k1, _, k2, k3, k4⟩ := lL hl
      rw [h1] at k1; cases k1
      exact ⟨ok.s0 _ _ k4, ny hl, ok.zd k4⟩
    · have h5 := fF nt h1 h2 h3 hl
      exact ⟨ok.sF _ _ h5, by rw [nn hl]; exact ok.F0 h5, ok.Fd h5⟩
  refine q p us ⟨T.F, H0n, T'.Hd, T'.H, T.P⟩ l S' ⟨rfl, rfl, s0n, e.da⟩ hp ?_ ?_ pd ?_ ?_ hQ.2
  · cases z : T.F p with
    | none => rfl
    | some x => exact (np (fun us y => S.ok.ft (y ▸ z)) (S.ok.sF _ _ z) (S.ok.F0 z) (S.ok.Fd z)).elim
  · by_cases hl : Lent σ ρ as p
    · exact ny hl
    · show H0n p = none
      rw [nn hl]; exact p0
  · intro j c ec pc hs
    obtain ⟨s, e1, r1⟩ := S.cell j c ec
    rw [hs] at e1
    cases e1
    cases c with
    | own l => obtain ⟨q, us, e2, e3, r, m1, m2, m3⟩ := r1; cases e2; exact np (fun _ z => by cases z) e3 m2 m3
    | pin q l => obtain ⟨us, e2, e0, e3, r⟩ := r1; cases e2; exact np (fun _ z => by cases z) (S.ok.sF _ _ e3) (S.ok.F0 e3) (S.ok.Fd e3)
    | obj q c fs => obtain ⟨C, dx, vf, e2, e3, m, cl, na, r, m1, m2, m3⟩ := r1; cases e2; exact np (fun _ z => by cases z) e3 m2 m3
    | dic l => obtain ⟨q, us, e2, e3, r, m1, m2, m3⟩ := r1; cases e2; exact np (fun _ z => by cases z) e3 m2 m3
    | dit l => obtain ⟨q, us, e2, e3, r, m1, m2, m3⟩ := r1; cases e2; exact np (fun _ z => by cases z) e3 m2 m3
    | _ => cases pc
  · by_cases hany : as.any (isO ρ) = true
    · exact ra_free (L := Lent σ ρ as) (fun b hl => by obtain ⟨us, _, hk, _, _, h4⟩ := lL hl; exact ⟨us, h4, hk⟩) (fun b hl => nn hl) r (hQ.1 hany)
    · have z : H0n = T'.H0 := by
        funext b
        by_cases hl : Lent σ ρ as b
        · refine absurd ?_ hany
          obtain ⟨i, hm, ho, _⟩ := hl
          refine List.any_eq_true.mpr ⟨_, hm, ?_⟩
          rcases ho with ⟨l, e⟩ | ⟨q, l, e⟩ | ⟨l, e⟩
          · show (match ρ.getD i .no with | .own _ => true | .pin _ _ => true | .dic _ => true | _ => false) = true
            rw [e]
          · show (match ρ.getD i .no with | .own _ => true | .pin _ _ => true | .dic _ => true | _ => false) = true
            rw [e]
          · show (match ρ.getD i .no with | .own _ => true | .pin _ _ => true | .dic _ => true | _ => false) = true
            rw [e]
        · exact nn hl
      show RA Γ H0n T'.Hd us l
      rw [z]; exact r
variable {CX : CXT} {k : Nat} {f C : Addr} {fd : FuncData} {ps : List Str} {W : WFL} {E : XK} {x : Str} {p pos : Pos} {e : Expr} {es : List Expr} {ta : TA} {wa : WA} {dv : List V} {ds : List Value} {dd : List D}
theorem sf_callL (hd : ∀ H0 Hd, RA Γ H0 Hd dv dd) (ha : SA Γ ta wa) : SF Γ (tCall (spL Γ W) dv E ta) (wCallL W dd wa) := ⟨fun {T σ ρ Q Q'} S hw q => ha.h S hw fun vs T1 as ρ1 S1 e1 r1 q1 =>
  S1.callL r1 hd q1 fun p us T2 l S2 e2 a b c d n r2 q2 => q p us T2 l ρ1 S2 (e1.trans e2) a b c d n r2 q2⟩
theorem vf_callL (F : FnOk X.prog X.w X.K X.mg X.base CX k f fd ps (spL Γ W)) (hr : Room k X.A) (hg : Gl X x) (hm : X.mg x = some (.ref f)) (hk : PySem.W.keepIn X.K (.ref f) = true) (hb : Binds X.K fd ps ds) (hdv : Vals dv ds) (hd : ∀ H0 Hd, RA Γ H0 Hd dv dd) (hx : Passes CX X E)
    (ha : VA Γ X (e :: es) ta wa) (hdb : (x == ("__debug__" : Str)) = false := by decide) (he : starEach (e :: es) X.env = (false, eval e X.env) :: starEach es X.env := by rfl) (hpl : (backTo pos (starEach es X.env)).any (·.1) = false := by rfl) :
    VF Γ X (.Call (.Name x p) (e :: es) [] pos) (tCall (spL Γ W) dv E ta) (wCallL W dd wa) := ⟨pe_call F hr hg hm hk hb hdv hx ha.pe hdb he hpl, sf_callL hd ha.se⟩
end
end Vl

namespace Vl
open PySem PySem.Spec PyProof.Rows L2 Hl
/-! ### a list of one's own handed to a def that only reads it -/
inductive Ar where
  | v (d : D)
  | p (l : List D)
@[simp] def Ar.isP : Ar → Bool
  | .p _ => true
  | .v _ => false
@[simp] def Ar.cell (a : Addr) : Ar → Cell
  | .v d => .val d
  | .p l => .pin a l
abbrev WFP := List Ar → (D → Prop) → Prop
/-- at most one list handed over -/
@[simp] def wDefP (n m : Nat) (b : WS) : WFP := fun as Q => (as.length = n ∧ (as.filter Ar.isP).length ≤ 1) ∧ ∀ a, b { nx := fun _ => Q .non, rt := Q } (as.map (Ar.cell a) ++ List.replicate (m - n) .no)
@[simp] def cArg : Cell → (Ar → Prop) → Prop
  | .val d, k => k (.v d)
  | .own l, k => k (.p l)
  | .pin _ l, k => k (.p l)
  | _, _ => False
@[simp] def rsP (ρ : Vn) : List AI → (List Ar → Prop) → Prop
  | [], k => k []
  | .d d :: as, k => rsP ρ as fun r => k (.v d :: r)
  | .sl i :: as, k => cArg (ρ.getD i .no) fun x => rsP ρ as fun r => k (x :: r)
@[simp] def wCallP (W : WFP) (w : WA) : WE := fun ρ Q => w ρ fun as ρ1 => rsP ρ1 as fun ds => W ds fun d => Q d ρ1
def ArR (Γ : Gx) (T : Wo) (v : V) : Ar → Prop
  | .v d => R Γ T.H0 T.Hd v d
  | .p l => ∃ p us, v = .ref p ∧ T.P p ∧ T.F p = some (.lst us) ∧ RA Γ T.H0 T.Hd us l
inductive ArRs (Γ : Gx) (T : Wo) : List V → List Ar → Prop
  | nil : ArRs Γ T [] []
  | cons {v : V} {a : Ar} {vs : List V} {l : List Ar} : ArR Γ T v a → ArRs Γ T vs l → ArRs Γ T (v :: vs) (a :: l)
theorem ArRs.len {Γ : Gx} {T : Wo} : ∀ {vs : List V} {l : List Ar}, ArRs Γ T vs l → vs.length = l.length
  | _, _, .nil => rfl
  | _, _, .cons _ t => by rw [List.length_cons, List.length_cons, t.len]
theorem ArRs.get {Γ : Gx} {T : Wo} : ∀ {vs : List V} {l : List Ar} {i : Nat} {a : Ar}, ArRs Γ T vs l → l[i]? = some a → ∃ v, vs[i]? = some v ∧ ArR Γ T v a
  | _, _, _, _, .nil, h => by simp at h
  | _, _, 0, _, .cons h _, e => by simp at e; subst e; exact ⟨_, rfl, h⟩
  | _, _, i + 1, a, .cons _ t, e => by
    obtain ⟨v, h1, h2⟩ := ArRs.get (i := i) (a := a) t (by simpa using e)
    exact ⟨v, by simpa using h1, h2⟩
def spP (Γ : Gx) (W : WFP) : Sp := fun vs H Q _ => ∃ T ds P, T.H = H ∧ T.Ok ∧ ArRs Γ T vs ds ∧ W ds P ∧ ∀ v T' d, T'.Ok → Ext Γ T T' → R Γ T'.H0 T'.Hd v d → P d → Q v T'.H
theorem spP_len {Γ : Gx} {W : WFP} {n : Nat} {vs : List V} {H : Hp} {Q : VK} {E : XK} (hW : ∀ {ds P}, W ds P → ds.length = n) (h : spP Γ W vs H Q E) : vs.length = n := by
  obtain ⟨T, ds, P, rfl, ok, ra, hw, q⟩ := h
  rw [ra.len]; exact hW hw
theorem one_pin : ∀ {ds : List Ar} {i j : Nat} {l l' : List D}, (ds.filter Ar.isP).length ≤ 1 → ds[i]? = some (.p l) → ds[j]? = some (.p l') → i = j
  | [], i, j, _, _, _, h, _ => by simp at h
  | a :: ds, 0, 0, _, _, _, _, _ => rfl
  | a :: ds, 0, j + 1, l, l', h, h1, h2 => by
    have h1 : a = .p l := by simpa using h1
    have h2 : ds[j]? = some (.p l') := by simpa using h2
    subst h1
    have := List.length_pos_of_mem (List.mem_filter.2 ⟨List.mem_of_getElem? h2, rfl⟩ : Ar.p l' ∈ ds.filter Ar.isP)
    rw [List.filter_cons_of_pos (by rfl), List.length_cons] at h
    omega
  | a :: ds, i + 1, 0, l, l', h, h1, h2 => by
    have h2 : a = .p l' := by simpa using h2
    have h1 : ds[i]? = some (.p l) := by simpa using h1
    subst h2
    have := List.length_pos_of_mem (List.mem_filter.2 ⟨List.mem_of_getElem? h1, rfl⟩ : Ar.p l ∈ ds.filter Ar.isP)
    rw [List.filter_cons_of_pos (by rfl), List.length_cons] at h
    omega
  | a :: ds, i + 1, j + 1, l, l', h, h1, h2 => by
    have h3 : (ds.filter Ar.isP).length ≤ 1 := by
      rw [List.filter_cons] at h
      split at h
      · rw [List.length_cons] at h; omega
      · exact h
    have e : i = j := one_pin h3 (by simpa using h1) (by simpa using h2)
    rw [e]
section
variable {Γ : Gx} {X : Cx} {T : Wo} {σ : L2.St} {ρ : Vn}
/-- the address of the list handed over -/
theorem pin_addr {vs : List V} {ds : List Ar} (ra : ArRs Γ T vs ds) (h : (ds.filter Ar.isP).length ≤ 1) : ∃ a : Addr, ∀ (i : Nat) (l : List D), ds[i]? = some (Ar.p l) → vs[i]? = some (V.ref a) := by
  by_cases hp : ∃ (i : Nat) (l : List D), ds[i]? = some (Ar.p l)
  · obtain ⟨i, l, e⟩ := hp
    obtain ⟨v, hv, p, us, rfl, _⟩ := ra.get e
    exact ⟨p, fun j l' e' => by rw [one_pin h e' e]; exact hv⟩
  · exact ⟨0, fun i l e => absurd ⟨i, l, e⟩ hp⟩
theorem start_svP {N : List Str} {vs : List V} {ds : List Ar} {a : Addr} (ok : T.Ok) (ra : ArRs Γ T vs ds) (h1 : (ds.filter Ar.isP).length ≤ 1) (ha : ∀ (i : Nat) (l : List D), ds[i]? = some (.p l) → vs[i]? = some (.ref a)) : Sv Γ T (L2.start N vs) (ds.map (Ar.cell a) ++ List.replicate (N.length - ds.length) .no) := by
  have hat : ∀ {i : Nat} {c : Cell}, (ds.map (Ar.cell a) ++ List.replicate (N.length - ds.length) Cell.no)[i]? = some c → c = .no ∨ ∃ d, c = Ar.cell a d ∧ ds[i]? = some d ∧ i < ds.length := fun {i c} e => by
    by_cases hi : i < ds.length
    · rw [List.getElem?_append_left (by simpa using hi), List.getElem?_map] at e
      cases z : ds[i]? with
      | none => rw [z] at e; cases e
      | some d => rw [z] at e; cases e; exact .inr ⟨d, rfl, rfl, hi⟩
    · rw [List.getElem?_append_right (by simpa using hi), List.getElem?_replicate] at e
      split at e
      · cases e; exact .inl rfl
      · cases e
  refine ⟨ok, by simp [L2.start, ra.len], fun i c e => ?_, fun i j p c c' e1 e2 p1 p2 _ _ => ?_⟩
  · have hl : i < (L2.start N vs).length := by
      obtain ⟨z, _⟩ := List.getElem?_eq_some_iff.mp e
      simp [L2.start, ra.len] at z ⊢
      exact z
    rcases hat e with rfl | ⟨d, rfl, hd, hi⟩
    · exact ⟨_, List.getElem?_eq_getElem hl, trivial⟩
    · obtain ⟨v, hv, r⟩ := ra.get hd
      have hs : (L2.start N vs)[i]? = some (some v) := by
        unfold L2.start
        rw [List.getElem?_append_left (by simpa [ra.len] using hi), List.getElem?_map, hv]
        rfl
      refine ⟨some v, hs, ?_⟩
      cases d with
      | v d => exact ⟨v, rfl, r⟩
      | p l =>
        obtain ⟨p, us, rfl, hP, hF, hr⟩ := r
        have := ha i l hd
        rw [hv] at this
        cases this
        exact ⟨us, rfl, hP, hF, hr⟩
  · rcases hat e1 with rfl | ⟨d, rfl, hd, _⟩
    · cases p1
    · rcases hat e2 with rfl | ⟨d', rfl, hd', _⟩
      · cases p2
      · cases d with
        | v _ => cases p1
        | p l =>
          cases d' with
          | v _ => cases p2
          | p l' => exact one_pin h1 hd hd'
theorem okP {N : List Str} {body : List Stmt} {t : TS} {b : WS} {vs : List V} {H : Hp} {Q : VK} {E : XK} {n m : Nat} (hN : N.length = m) (hb : VB Γ X body t b) (h : spP Γ (wDefP n m b) vs H Q E) :
    ∃ t, PSs X body t ∧ t { nx := fun _ H' => Q .non H', rt := Q } (L2.start N vs) H := by
  obtain ⟨T, ds, P, rfl, ok, ra, ⟨⟨hl, h1⟩, hw⟩, q⟩ := h
  subst hl hN
  obtain ⟨a, ha⟩ := pin_addr ra h1
  exact ⟨t, hb.pe, hb.se.h (start_svP ok ra h1 ha) (hw a) (fun T' σ' ρ' S' e' h' => q .non T' .non S'.ok e' .non h') (fun T' v d ok' e' r' h' => q v T' d ok' e' r' h') (fun _ _ _ _ _ h => h.elim) (fun _ _ _ _ _ h => h.elim)⟩
theorem args_P {P : Addr → Prop} (S : Sv Γ T σ ρ) (hP : ∀ p us, T.H p = some (.lst us) → T.H0 p = none → T.Hd p = none → P p) : ∀ {vs : List V} {as : List AI} {k : List Ar → Prop}, ARs Γ T σ vs as → rsP ρ as k → ∃ ds, ArRs Γ ⟨frH T.H0 T.Hd T.H, T.H0, T.Hd, T.H, P⟩ vs ds ∧ k ds
  | _, _, _, .nil, h => ⟨[], .nil, h⟩
  | _, .d d :: as, _, .cons a r, h => by
    obtain ⟨ds, r2, h⟩ := args_P S hP r h
    exact ⟨.v d :: ds, .cons a r2, h⟩
  | v :: vs, .sl i :: as, _, .cons a r, h => by
    have h : cArg (ρ.getD i .no) fun x => rsP ρ as fun r => _ := h
    cases e : ρ.getD i .no with
    | val d =>
      rw [e] at h
      obtain ⟨s, e1, v', e2, rv⟩ := S.cell i _ (getD_of e (by simp))
      rw [show σ[i]? = some (some v) from a] at e1
      cases e1; cases e2
      obtain ⟨ds, r2, h⟩ := args_P S hP r h
      exact ⟨_, .cons (a := .v d) rv r2, h⟩
    | own l =>
      rw [e] at h
      obtain ⟨s, e1, p, us, e2, hp, rv, n1, n2, n3⟩ := S.cell i _ (getD_of e (by simp))
      rw [show σ[i]? = some (some v) from a] at e1
      cases e1; cases e2
      obtain ⟨ds, r2, h⟩ := args_P S hP r h
      exact ⟨_, .cons (a := .p l) ⟨p, us, rfl, hP _ _ hp n2 n3, by exact frH_yes n2 n3 hp (fun _ z => by cases z), rv⟩ r2, h⟩
    | pin q l =>
      rw [e] at h
      obtain ⟨s, e1, us, e2, e0, hp, rv⟩ := S.cell i _ (getD_of e (by simp))
      rw [show σ[i]? = some (some v) from a] at e1
      cases e1; cases e2
      obtain ⟨ds, r2, h⟩ := args_P S hP r h
      exact ⟨_, .cons (a := .p l) ⟨q, us, rfl, hP _ _ (S.ok.sF _ _ hp) (S.ok.F0 hp) (S.ok.Fd hp), by exact frH_yes (S.ok.F0 hp) (S.ok.Fd hp) (S.ok.sF _ _ hp) (fun _ z => by cases z), rv⟩ r2, h⟩
    | _ => rw [e] at h; exact h.elim
theorem Sv.callP {as : List AI} {vs : List V} {W : WFP} {Q : D → Prop} {Q' : VK} {E : XK} (S : Sv Γ T σ ρ) (ha : ARs Γ T σ vs as)
    (h : rsP ρ as fun ds => W ds Q) (q : ∀ v T' d, Sv Γ T' σ ρ → Ext Γ T T' → R Γ T'.H0 T'.Hd v d → Q d → Q' v T'.H) : spP Γ W (vs ++ []) T.H Q' E := by
  obtain ⟨ds, ra, h⟩ := args_P (P := fun _ => True) S (fun _ _ _ _ _ => trivial) ha h
  rw [List.append_nil]
  refine ⟨⟨frH T.H0 T.Hd T.H, T.H0, T.Hd, T.H, fun _ => True⟩, ds, _, rfl, ⟨fun b x e => (frH_some e).2.2, S.ok.s0, S.ok.sd, fun {b x} e => (frH_some e).1, fun {b x} e => (frH_some e).2.1, S.ok.zd, frH_nt, S.ok.dt⟩, ra, h, ?_⟩
  intro v T' d ok e r hQ
  have fF : ∀ {b x}, (∀ us, x ≠ .tup us) → T.H b = some x → T.H0 b = none → T.Hd b = none → T'.F b = some x := fun {b x} nt e1 e2 e3 => by
    rw [e.f]
    show frH T.H0 T.Hd T.H b = some x
    exact frH_yes e2 e3 e1 nt
  have fE : ∀ {b x}, T.F b = some x → T'.F b = some x := fun {b x} eF => fF (fun us z => S.ok.ft (z ▸ eF)) (S.ok.sF _ _ eF) (S.ok.F0 eF) (S.ok.Fd eF)
  have okn : Wo.Ok ⟨T.F, T'.H0, T'.Hd, T'.H, T.P⟩ :=
    ⟨fun b x eF => ok.sF _ _ (fE eF), ok.s0, ok.sd, fun {b x} eF => ok.F0 (fE eF), fun {b x} eF => ok.Fd (fE eF), ok.zd, S.ok.ft, ok.dt⟩
  have S' : Sv Γ ⟨T.F, T'.H0, T'.Hd, T'.H, T.P⟩ σ ρ := S.after okn e.s0 e.da fun p x nt h1 h2 h3 => by
    have h5 := fF nt h1 h2 h3
    exact ⟨ok.sF _ _ h5, ok.F0 h5, ok.Fd h5⟩
  exact q v ⟨T.F, T'.H0, T'.Hd, T'.H, T.P⟩ d S' ⟨rfl, rfl, e.s0, e.da⟩ r hQ
variable {CX : CXT} {k : Nat} {f C : Addr} {fd : FuncData} {ps : List Str} {W : WFP} {E : XK} {x : Str} {p pos : Pos} {e : Expr} {es : List Expr} {ta : TA} {wa : WA}
theorem se_callP (ha : SA Γ ta wa) : SE Γ (tCall (spP Γ W) [] E ta) (wCallP W wa) := ⟨fun {T σ ρ Q Q'} S hw q => ha.h S hw fun vs T1 as ρ1 S1 e1 r1 q1 =>
  S1.callP r1 q1 fun v T2 d S2 e2 r2 q2 => q v T2 d ρ1 S2 (e1.trans e2) r2 q2⟩
theorem ve_callP (F : FnOk X.prog X.w X.K X.mg X.base CX k f fd ps (spP Γ W)) (hr : Room k X.A) (hg : Gl X x) (hm : X.mg x = some (.ref f)) (hk : PySem.W.keepIn X.K (.ref f) = true) (hb : Binds X.K fd ps []) (hx : Passes CX X E)
    (ha : VA Γ X (e :: es) ta wa) (hdb : (x == ("__debug__" : Str)) = false := by decide) (he : starEach (e :: es) X.env = (false, eval e X.env) :: starEach es X.env := by rfl) (hpl : (backTo pos (starEach es X.env)).any (·.1) = false := by rfl) :
    VE Γ X (.Call (.Name x p) (e :: es) [] pos) (tCall (spP Γ W) [] E ta) (wCallP W wa) := ⟨pe_call F hr hg hm hk hb .nil hx ha.pe hdb he hpl, se_callP ha.se⟩
end
end Vl

namespace Vl
open PySem PySem.Spec PyProof.Rows L2 Hl
/-! ### a well: [great cell, stir, turns] -/
def WellAt (H : Hp) (a : Addr) : Prop := ∃ c s n : Int, H a = some (.lst [.int c, .int s, .int n]) ∧ 0 ≤ c
theorem WellAt.same {H H' : Hp} {a : Addr} (e : Same H H') (h : WellAt H a) : WellAt H' a := by
  obtain ⟨c, s, n, h1, h2⟩ := h
  exact ⟨c, s, n, e _ _ h1, h2⟩
def gxWl (K : PySem.W.Frag) (w : World) (mg : Str → Option Value) : Gx := ⟨K, w, mg, WellAt, fun e h => h.same e⟩
/-- all but one stands -/
def Frw (a : Addr) (H H' : Hp) : Prop := ∀ b o, b ≠ a → H b = some o → H' b = some o
theorem Frw.refl (a : Addr) (H : Hp) : Frw a H H := fun _ _ _ h => h
theorem Frw.trans {a : Addr} {H H' H'' : Hp} (x : Frw a H H') (y : Frw a H' H'') : Frw a H H'' := fun b o h1 h => y b o h1 (x b o h1 h)
theorem Frw.same {a : Addr} {H H' : Hp} (e : Same H H') : Frw a H H' := fun b o _ h => e b o h
theorem Frw.w {a : Addr} {H H' : Hp} {o : HO} (e : Frw a H H') : Frw a H (upd H' a o) := fun b u h1 h => by rw [upd_ne h1]; exact e b u h1 h
def sp_dip : Sp := fun vs H Q _ => ∃ (w : Addr) (many : Int), vs = [.ref w, .int many] ∧ WellAt H w ∧ 0 < many ∧ many < 1073741824 ∧ ∀ r H', 0 ≤ r → r < many → Frw w H H' → WellAt H' w → Q (.int r) H'
def sp_well (K : PySem.W.Frag) : Sp := fun vs H Q _ => ∃ (a : Addr) (ns : List Int) (k : Int), vs = [.ref a, .int k] ∧ SqL K H a (ns.map V.int) ∧ ns.length ≤ 63 ∧ 0 ≤ k ∧ ∀ p H', H p = none → Same H H' → WellAt H' p → Q (.ref p) H'
def W_dip : WF1 := fun ds Q => ∃ many : Int, ds = [.hnd, .int many] ∧ 0 < many ∧ many < 1073741824 ∧ ∀ r : Int, 0 ≤ r → r < many → Q (.int r)
def W_well : WF1 := fun ds Q => ∃ (ns : List Int) (k : Int), ds = [.scr ns, .int k] ∧ ns.length ≤ 63 ∧ 0 ≤ k ∧ Q .hnd
@[simp] theorem dip_iff {m : Int} {Q : D → Prop} : W_dip [.hnd, .int m] Q ↔ 0 < m ∧ m < 1073741824 ∧ ∀ r : Int, 0 ≤ r → r < m → Q (.int r) := by
  constructor
  · rintro ⟨many, e, h⟩
    cases e
    exact h
  · exact fun h => ⟨m, rfl, h⟩
@[simp] theorem well_iff {ns : List Int} {k : Int} {Q : D → Prop} : W_well [.scr ns, .int k] Q ↔ ns.length ≤ 63 ∧ 0 ≤ k ∧ Q .hnd := by
  constructor
  · rintro ⟨ns', k', e, h⟩
    cases e
    exact h
  · exact fun h => ⟨ns, k, rfl, h⟩
theorem dip_imp {K : PySem.W.Frag} {w : World} {mg : Str → Option Value} {vs : List V} {H : Hp} {Q : VK} {E : XK} (h : spV (gxWl K w mg) W_dip vs H Q E) : sp_dip vs H Q E := by
  obtain ⟨T, ds, P, rfl, ok, ra, ⟨many, rfl, m0, m1, hP⟩, q⟩ := h
  match vs, ra with
  | [v, u], .cons r1 (.cons r2 .nil) =>
    cases r2
    cases r1 with
    | hnd h =>
      rename_i a
      have hp : WellAt T.Hd a := h
      refine ⟨a, many, rfl, hp.same ok.sd, m0, m1, fun r H' h0 h1 fr hh => ?_⟩
      have ha : ∃ o, T.Hd a = some o := by obtain ⟨c, s, n, e, _⟩ := hp; exact ⟨_, e⟩
      have nof : ∀ {A : Hp} {b x}, (∀ {b x}, A b = some x → T.Hd b = none) → A b = some x → b ≠ a := fun {A b x} hA e z => by
        obtain ⟨o, e'⟩ := ha; rw [z] at e; rw [hA e] at e'; cases e'
      have nF := fun {b x} (e : T.F b = some x) => nof (A := T.F) (fun e => ok.Fd e) e
      have n0 := fun {b x} (e : T.H0 b = some x) => nof (A := T.H0) (fun e => ok.zd e) e
      let Hn : Hp := fun b => if b = a then H' b else T.Hd b
      have ny : Hn a = H' a := if_pos rfl
      have nn : ∀ {b}, b ≠ a → Hn b = T.Hd b := fun h => if_neg h
      refine q (.int r) ⟨T.F, T.H0, Hn, H', T.P⟩ (.int r) ⟨fun b x e => fr b x (nF e) (ok.sF _ _ e), fun b x e => fr b x (n0 e) (ok.s0 _ _ e), fun b x e => ?_, ok.F0, fun {b x} e => ?_, fun {b x} e => ?_, ok.ft, fun {b us} e => ?_⟩ ⟨rfl, rfl, Same.refl _, fun c hc => ?_⟩ (.int r) (hP r h0 h1)
      · dsimp only at e
        by_cases hz : b = a
        · subst hz; rw [ny] at e; exact e
        · rw [nn hz] at e
          exact fr b x hz (ok.sd _ _ e)
      · show Hn b = none
        rw [nn (nF e)]; exact ok.Fd e
      · show Hn b = none
        rw [nn (n0 e)]; exact ok.zd e
      · dsimp only at e
        by_cases hz : b = a
        · subst hz
          obtain ⟨c', s', n', k1, k2⟩ := hh
          rw [ny, k1] at e; cases e
        · rw [nn hz] at e; exact ok.dt e
      · by_cases hca : c = a
        · subst hca
          obtain ⟨c', s', n', k1, k2⟩ := hh
          exact ⟨c', s', n', by dsimp only; rw [ny]; exact k1, k2⟩
        · obtain ⟨c', s', n', k1, k2⟩ := hc
          exact ⟨c', s', n', by dsimp only; rw [nn hca]; exact k1, k2⟩
theorem well_imp {K : PySem.W.Frag} {w : World} {mg : Str → Option Value} {vs : List V} {H : Hp} {Q : VK} {E : XK} (h : spV (gxWl K w mg) W_well vs H Q E) : sp_well K vs H Q E := by
  obtain ⟨T, ds, P, rfl, ok, ra, ⟨ns, k, rfl, hl, hk, hP⟩, q⟩ := h
  match vs, ra with
  | [v, u], .cons r1 (.cons r2 .nil) =>
    cases r2
    cases r1 with
    | scr hs =>
      rename_i a
      refine ⟨a, ns, k, rfl, ok.s0.seq hs, hl, hk, fun p H' np sm hh => ?_⟩
      let Hn : Hp := fun b => if b = p then H' b else T.Hd b
      have ny : Hn p = H' p := if_pos rfl
      have nn : ∀ {b}, b ≠ p → Hn b = T.Hd b := fun h => if_neg h
      have nw : ∀ {b x}, T.H b = some x → b ≠ p := fun {b x} e z => by
        subst z; rw [np] at e; cases e
      refine q (.ref p) ⟨T.F, T.H0, Hn, H', T.P⟩ .hnd ⟨fun b x e => sm _ _ (ok.sF _ _ e), fun b x e => sm _ _ (ok.s0 _ _ e), fun b x e => ?_, ok.F0, fun {b x} e => ?_, fun {b x} e => ?_, ok.ft, fun {b us} e => ?_⟩ ⟨rfl, rfl, Same.refl _, fun c hc => ?_⟩ (.hnd ?_) hP
      · dsimp only at e
        by_cases hz : b = p
        · subst hz; rw [ny] at e; exact e
        · rw [nn hz] at e; exact sm _ _ (ok.sd _ _ e)
      · show Hn b = none
        rw [nn (nw (ok.sF _ _ e))]; exact ok.Fd e
      · show Hn b = none
        rw [nn (nw (ok.s0 _ _ e))]; exact ok.zd e
      · dsimp only at e
        by_cases hz : b = p
        · subst hz
          obtain ⟨c', s', n', k1, k2⟩ := hh
          rw [ny, k1] at e; cases e
        · rw [nn hz] at e; exact ok.dt e
      · obtain ⟨c', s', n', k1, k2⟩ := hc
        exact ⟨c', s', n', by dsimp only; rw [nn (nw (ok.sd _ _ k1))]; exact k1, k2⟩
      · obtain ⟨c', s', n', k1, k2⟩ := hh
        exact ⟨c', s', n', by dsimp only; rw [ny]; exact k1, k2⟩
theorem law_impW {K : PySem.W.Frag} {w : World} {mg : Str → Option Value} {W : WF1} (hW : ∀ ns : List Int, ns.length ≤ 63 → W [.scr ns] fun d => d = .bl true) {vs : List V} {H : Hp} {Q : VK} {E : XK} (h : sp_law K vs H Q E) : spV (gxWl K w mg) W vs H Q E := by
  obtain ⟨a, ns, rfl, hs, hl, q⟩ := h
  refine ⟨⟨fun _ => none, H, fun _ => none, H, fun _ => False⟩, [.scr ns], _, rfl, ⟨(by intro b x e; cases e), Same.refl _, (by intro b x e; cases e), (by intro b x e; cases e), (by intro b x e; cases e), fun _ => rfl, (by intro b x e; cases e), (by intro b x e; cases e)⟩, .cons (.scr hs) .nil, hW ns hl, ?_⟩
  rintro v T' d ok e r rfl
  cases r
  exact q _
end Vl

namespace Vl
open PySem PySem.Spec PyProof.Rows L2 Hl
/-! ### dicts whose keys are tuples of ints and texts -/
@[simp] def D.keyT : D → Option (List Key)
  | .tup l => l.mapM D.keyO
  | _ => none
def kD : Key → D
  | .inl i => .int i
  | .inr z => .str z
def valDT (kvs : List (List Key × D)) (k : List Key) : Option D := (kvs.find? fun kv => decide (kv.1 = k)).map (·.2)
def putDT (kvs : List (List Key × D)) (k : List Key) (v : D) : List (List Key × D) :=
  if (kvs.any fun kv => decide (kv.1 = k)) = true then kvs.map (fun kv => if kv.1 = k then (kv.1, v) else kv) else kvs ++ [(k, v)]
@[simp] def cDit : Cell → (List (List Key × D) → Prop) → Prop
  | .dit l, k => k l
  | _, _ => False
theorem cDit_of {c : Cell} {k : List (List Key × D) → Prop} (h : cDit c k) : ∃ d, c = .dit d ∧ k d := by
  cases c with
  | dit d => exact ⟨d, rfl, h⟩
  | _ => exact h.elim
theorem mapM_cons {α β : Type} {f : α → Option β} {a : α} {l : List α} {r : List β} (h : (a :: l).mapM f = some r) : ∃ b bs, f a = some b ∧ l.mapM f = some bs ∧ r = b :: bs := by
  rw [List.mapM_cons] at h
  cases e : f a with
  | none => rw [e] at h; cases h
  | some b =>
    rw [e] at h
    cases e2 : l.mapM f with
    | none => rw [e2] at h; cases h
    | some bs => rw [e2] at h; cases h; exact ⟨b, bs, rfl, rfl, rfl⟩
section
variable {Γ : Gx} {X : Cx} {T : Wo} {σ : L2.St} {ρ : Vn}
theorem R.key {H0 Hd : Hp} {v : V} {d : D} {k : Key} (h : R Γ H0 Hd v d) (e : d.keyO = some k) : v = kV k := by
  cases h <;> first | cases e; done | (cases e; rfl)
theorem RA.keys {H0 Hd : Hp} : ∀ {vs : List V} {l : List D} {ks : List Key}, RA Γ H0 Hd vs l → l.mapM D.keyO = some ks → vs = ks.map kV
  | _, _, ks, .nil, h => by
    have : ks = [] := by simpa using h.symm
    subst this; rfl
  | _, _, ks, .cons h t, e => by
    obtain ⟨b, bs, e1, e2, rfl⟩ := mapM_cons e
    rw [List.map_cons, ← h.key e1, ← t.keys e2]
theorem RO.keyT {v : V} {d : D} {k : List Key} (ok : T.Ok) (h : RO Γ T v d) (e : d.keyT = some k) : ∃ b, v = .ref b ∧ T.H b = some (.tup (k.map kV)) := by
  cases d <;> first | cases e; done | skip
  cases h with
  | sh h =>
    cases h with
    | tup hp ra => exact ⟨_, rfl, by rw [← ra.keys e]; exact ok.s0 _ _ hp⟩
theorem RKT.len {H0 Hd : Hp} : ∀ {vs : List (List Key × V)} {l : List (List Key × D)}, RKT Γ H0 Hd vs l → vs.length = l.length
  | _, _, .nil => rfl
  | _, _, .cons _ t => by rw [List.length_cons, List.length_cons, t.len]
theorem RKT.val {H0 Hd : Hp} (k : List Key) : ∀ {vs : List (List Key × V)} {l : List (List Key × D)}, RKT Γ H0 Hd vs l → (valV vs k).isSome = (valDT l k).isSome ∧ ∀ d, valDT l k = some d → ∃ v, valV vs k = some v ∧ R Γ H0 Hd v d
  | _, _, .nil => ⟨rfl, fun _ h => nomatch h⟩
  | _, _, .cons (k := k') (v := v) (d := d) (vs := vs) (l := l) h t => by
    obtain ⟨h1, h2⟩ := t.val k
    by_cases e : k' = k
    · have e1 : valV ((k', v) :: vs) k = some v := by simp [valV, List.find?_cons, e]
      have e2 : valDT ((k', d) :: l) k = some d := by simp [valDT, List.find?_cons, e]
      rw [e1, e2]
      exact ⟨rfl, fun d' hd => by cases hd; exact ⟨v, rfl, h⟩⟩
    · have e1 : valV ((k', v) :: vs) k = valV vs k := by simp [valV, List.find?_cons, e]
      have e2 : valDT ((k', d) :: l) k = valDT l k := by simp [valDT, List.find?_cons, e]
      rw [e1, e2]
      exact ⟨h1, h2⟩
theorem RKT.any {H0 Hd : Hp} (k : List Key) : ∀ {vs : List (List Key × V)} {l : List (List Key × D)}, RKT Γ H0 Hd vs l → (vs.any fun kv => decide (kv.1 = k)) = (l.any fun kv => decide (kv.1 = k))
  | _, _, .nil => rfl
  | _, _, .cons h t => by rw [List.any_cons, List.any_cons, t.any k]
theorem RKT.app {H0 Hd : Hp} : ∀ {vs ws : List (List Key × V)} {l m : List (List Key × D)}, RKT Γ H0 Hd vs l → RKT Γ H0 Hd ws m → RKT Γ H0 Hd (vs ++ ws) (l ++ m)
  | _, _, _, _, .nil, h => h
  | _, _, _, _, .cons h t, u => .cons h (t.app u)
theorem RKT.upd {H0 Hd : Hp} {v : V} {d : D} (k : List Key) (hv : R Γ H0 Hd v d) : ∀ {vs : List (List Key × V)} {l : List (List Key × D)}, RKT Γ H0 Hd vs l → RKT Γ H0 Hd (vs.map fun kv => if kv.1 = k then (kv.1, v) else kv) (l.map fun kv => if kv.1 = k then (kv.1, d) else kv)
  | _, _, .nil => .nil
  | _, _, .cons (k := k') h t => by
    rw [List.map_cons, List.map_cons]
    by_cases e : k' = k
    · simp only [e, if_true]; exact .cons hv (t.upd k hv)
    · simp only [e, if_false]; exact .cons h (t.upd k hv)
theorem RKT.put {H0 Hd : Hp} {v : V} {d : D} (k : List Key) (hv : R Γ H0 Hd v d) {vs : List (List Key × V)} {l : List (List Key × D)} (h : RKT Γ H0 Hd vs l) : RKT Γ H0 Hd (putK vs k v) (putDT l k d) := by
  unfold putK putDT
  rw [h.any k]
  split
  · exact h.upd k hv
  · exact h.app (.cons hv .nil)
variable {e o : Expr} {te ti : TE} {we wi : WE} {wo : WO} {pos : Pos} {i : Nat}
theorem Sv.ditAt {k : List (List Key × D) → Prop} (S : Sv Γ T σ ρ) (h : cDit (ρ.getD i .no) k) : ∃ p vs l, ρ[i]? = some (.dit l) ∧ σ[i]? = some (some (.ref p)) ∧ T.H p = some (.dT vs) ∧ RKT Γ T.H0 T.Hd vs l ∧ T.F p = none ∧ T.H0 p = none ∧ T.Hd p = none ∧ k l := by
  obtain ⟨l, e, h⟩ := cDit_of h
  have e' := getD_of e (by simp)
  obtain ⟨s, e1, p, vs, e2, hp, r, n1, n2, n3⟩ := S.cell i _ e'
  exact ⟨p, vs, l, e', by rw [e1, e2], hp, r, n1, n2, n3, h⟩
theorem Sv.putDT {p : Addr} {vs : List (List Key × V)} {l l' : List (List Key × D)} (S : Sv Γ T σ ρ) (hi : ρ[i]? = some (.dit l)) (hs : σ[i]? = some (some (.ref p))) (nF : T.F p = none) (n0 : T.H0 p = none) (nd : T.Hd p = none) (r : RKT Γ T.H0 T.Hd vs l') :
    Sv Γ ⟨T.F, T.H0, T.Hd, upd T.H p (.dT vs), T.P⟩ σ (ρ.set i (.dit l')) ∧ Ext Γ T ⟨T.F, T.H0, T.Hd, upd T.H p (.dT vs), T.P⟩ :=
  S.put hi rfl hs nF n0 nd (fun T' h1 h2 h3 h4 => ⟨p, vs, rfl, h4, by rw [h2, h3]; exact r, by rw [h1]; exact nF, by rw [h2]; exact n0, by rw [h3]; exact nd⟩) rfl
/-- x = {} -/
@[simp] def wSetT (i : Nat) : WS := fun D ρ => D.nx (ρ.set i (.dit []))
theorem ss_setT : SS Γ (tAsg tDNewT (gName i)) (wSetT i) := ⟨fun {T σ ρ D D'} S hw a b c d => by
  intro p n
  have g := Gr.priv (o := .dT []) S.ok n
  have S1 := S.grow g
  exact a ⟨T.F, T.H0, T.Hd, upd T.H p (.dT []), T.P⟩ _ _ (S1.set (c := .dit []) ⟨p, [], rfl, upd_same, .nil, none_of_le S.ok.sF n, none_of_le S.ok.s0 n, none_of_le S.ok.sd n⟩ fun _ j p' c' e2 e3 pc e4 => by cases e2; exact absurd e4 (fresh_priv S n j c' e3 pc)) g.ext hw⟩
theorem vs_setT {x : Str} {pos' dpos : Pos} (hN : X.N.Nodup) (hi : X.N[i]? = some x) (hx : Loc X.env.scope x) (hs : swapsWith (.Dict [] [] dpos) (some (.Name x pos')) pos.line X.env = pure false := by rfl) (hf : X.fn x = true ∨ X.env.scope.names.lookup x = some .local := by first | exact .inl rfl | exact .inr rfl | assumption) :
    VS Γ X (.Assign [.Name x pos'] (.Dict [] [] dpos) pos) (tAsg tDNewT (gName i)) (wSetT i) := ⟨ps_set hN hi hx pe_dnewT hs hf, ss_setT⟩
/-- x[k] = e -/
@[simp] def wTput (i : Nat) (w wk : WE) : WS := fun D ρ => w ρ fun d ρ1 => cDit (ρ1.getD i .no) fun _ => wk ρ1 fun j ρ2 => oK j.keyT fun k => cDit (ρ2.getD i .no) fun l => l.length < sizeLine ∧ D.nx (ρ2.set i (.dit (putDT l k d)))
theorem ss_tput (h : SE Γ te we) (hk : SE Γ ti wi) : SS Γ (sDPut (tVar i) ti te) (wTput i we wi) := ⟨fun {T σ ρ D D'} S hw a b c d => h.h S hw fun v T1 x ρ1 S1 e1 r1 q1 => by
  obtain ⟨p, vs, l, hi', hs, hp, r, nF, n0, nd, q1⟩ := S1.ditAt q1
  refine ⟨_, hs, hk.h S1 q1 fun u T2 j ρ2 S2 e2 r2 q2 => ?_⟩
  obtain ⟨k, ek, q2⟩ := oK_of q2
  obtain ⟨p', vs', l', hi', hs', hp, r, nF, n0, nd, hz, hw⟩ := S2.ditAt q2
  rw [hs] at hs'; cases hs'
  obtain ⟨S3, e3⟩ := S2.putDT (l' := Vl.putDT l' k x) hi' hs nF n0 nd (r.put k (R.ext e2 r1))
  obtain ⟨b', rfl, hb⟩ := (RO.sh r2).keyT S2.ok ek
  exact ⟨_, _, rfl, .inr ⟨vs', k, b', hp, rfl, hb, by rw [r.len]; exact hz, rfl⟩, a _ σ _ S3 ((e1.trans e2).trans e3) hw⟩⟩
theorem vs_tput {ei : Expr} {pos' : Pos} (hu : X.A.units + 1 < cLine) (ho : PE X o (tVar i)) (hi : VE Γ X ei ti wi) (hv : VE Γ X e te we) (hs : swapsWith e (some (.Subscript o ei pos')) pos.line X.env = pure false := by rfl) :
    VS Γ X (.Assign [.Subscript o ei pos'] e pos) (sDPut (tVar i) ti te) (wTput i we wi) := ⟨ps_dput hu ho hi.pe hv.pe hs, ss_tput hv.se hi.se⟩
/-- x[k] -/
@[simp] def wTget (i : Nat) (wk : WE) : WE := fun ρ Q => cDit (ρ.getD i .no) fun _ => wk ρ fun j ρ2 => oK j.keyT fun k => cDit (ρ2.getD i .no) fun l => oK (valDT l k) fun v => Q v ρ2
theorem ve_tget {ei : Expr} {tk : TE} {wk : WE} (hu : X.A.units + 1 < cLine) (ho : PE X o (tVar i)) (hi : VE Γ X ei tk wk) (hsl : NoSl ei) : VE Γ X (.Subscript o ei pos) (tDGet (tVar i) tk) (wTget i wk) := ⟨pe_dget hu ho hi.pe hsl, ⟨fun {T σ ρ Q Q'} S hw q => by
  obtain ⟨p, vs, l, hi', hs, hp, r, nF, n0, nd, q1⟩ := S.ditAt hw
  refine ⟨_, hs, hi.se.h S q1 fun u T2 j ρ2 S2 e2 r2 q2 => ?_⟩
  obtain ⟨k, ek, q2⟩ := oK_of q2
  obtain ⟨p', vs', l', hi', hs', hp, r, nF, n0, nd, q2⟩ := S2.ditAt q2
  rw [hs] at hs'; cases hs'
  obtain ⟨v', ev, q2⟩ := oK_of q2
  obtain ⟨z, hz, rz⟩ := (r.val k).2 _ ev
  obtain ⟨b', rfl, hb⟩ := (RO.sh r2).keyT S2.ok ek
  exact ⟨p, z, rfl, .inr ⟨vs', k, b', .inl hp, rfl, hb, hz.symm⟩, q z T2 v' ρ2 S2 e2 rz q2⟩⟩⟩
/-- x in d, x not in d -/
@[simp] def wTin (neg : Bool) (i : Nat) (w : WE) : WE := fun ρ Q => w ρ fun j ρ1 => oK j.keyT fun k => cDit (ρ1.getD i .no) fun l => Q (.bl (if neg then !(valDT l k).isSome else (valDT l k).isSome)) ρ1
theorem se_tin {neg : Bool} (h : SE Γ te we) : SE Γ (tOp (rDIn neg) te (tVar i)) (wTin neg i we) := ⟨fun {T σ ρ Q Q'} S hw q => h.h S hw fun v T1 j ρ1 S1 e1 r1 q1 => by
  obtain ⟨k, ek, q1⟩ := oK_of q1
  obtain ⟨p, vs, l, hi', hs, hp, r, nF, n0, nd, q2⟩ := S1.ditAt q1
  obtain ⟨b', rfl, hb⟩ := (RO.sh r1).keyT S1.ok ek
  refine ⟨_, hs, p, _, rfl, .inr ⟨vs, k, b', .inl hp, rfl, hb, rfl⟩, ?_⟩
  rw [(r.val k).1]
  exact q _ T1 _ ρ1 S1 e1 (.bl _) q2⟩
theorem ve_tin (hu : X.A.units + 1 < cLine) (ha : VE Γ X e te we) (ho : PE X o (tVar i)) (hm : behindInMarks .In o = false) : VE Γ X (.Compare e [.In] [o] pos) (tOp (rDIn false) te (tVar i)) (wTin false i we) := ⟨pe_cmpR (op_din hu) ha.pe ho hm, se_tin ha.se⟩
theorem ve_tnin (hu : X.A.units + 1 < cLine) (ha : VE Γ X e te we) (ho : PE X o (tVar i)) (hm : behindInMarks .NotIn o = false) : VE Γ X (.Compare e [.NotIn] [o] pos) (tOp (rDIn true) te (tVar i)) (wTin true i we) := ⟨pe_cmpR (op_dnotin hu) ha.pe ho hm, se_tin ha.se⟩
theorem vt_tin (hu : X.A.units + 1 < cLine) (ha : VE Γ X e te we) (ho : PE X o (tVar i)) (hm : behindInMarks .In o = false) : VT Γ X (.Compare e [.In] [o] pos) (tTest (tOp (rDIn false) te (tVar i))) (wTst (wTin false i we)) := ⟨pt_cmpR (op_din hu) ha.pe ho hm, st_tst (se_tin ha.se)⟩
theorem vt_tnin (hu : X.A.units + 1 < cLine) (ha : VE Γ X e te we) (ho : PE X o (tVar i)) (hm : behindInMarks .NotIn o = false) : VT Γ X (.Compare e [.NotIn] [o] pos) (tTest (tOp (rDIn true) te (tVar i))) (wTst (wTin true i we)) := ⟨pt_cmpR (op_dnotin hu) ha.pe ho hm, st_tst (se_tin ha.se)⟩
end
end Vl

namespace PySem.W
open Lean PySem PySem.Calls PyProof.Rows PyProof.V PySem.Spec
section
variable {prog : Program} {w : World} {A : Around} {E : Value → Shared → Prop} {s : Shared}
theorem v34_same0 {nm : String} {a b : Addr} {oa ob : Obj} {es es' : Array DictEntry} {ep ep' : Nat} {Q : Bool → Shared → Prop} (ha : (a == sysModules) = false) (hb : (b == sysModules) = false)
    (hoa : s.heap.get? a = some oa) (hda : oa.data = .dict es ep) (hob : s.heap.get? b = some ob) (hdb : ob.data = .dict es' ep') (h0 : es'.size = 0) (h : Q (es.size == 0) s) :
    wpAny (model prog w) A (Builtin.Dict.samePairs nm a b) Q E s := by
  unfold Builtin.Dict.samePairs Builtin.Dict.showsAll
  rw [if_neg (show ¬ (a == sysModules) = true by rw [ha]; exact Bool.false_ne_true), if_neg (show ¬ (b == sysModules) = true by rw [hb]; exact Bool.false_ne_true)]
  refine wpAny_bind (wpAny_pure (wpAny_bind (wpAny_pure ?_)))
  refine wpAny_bind (wpAny_dictEntries hoa hda ?_)
  dsimp only
  refine wpAny_bind (wpAny_dictEntries hob hdb ?_)
  by_cases hsz : es.size = es'.size
  case neg =>
    rw [if_pos (by simpa using hsz)]
    have hbf : (es.size == 0) = false := by rw [← h0]; simpa using hsz
    rw [hbf] at h
    exact wpAny_bind (wpAny_rule (wpAny_pure h))
  case pos =>
    have hz : es.size = 0 := by rw [hsz]; exact h0
    rw [hz] at h
    have h' : Q true s := h
    rw [if_neg (by rw [hsz]; simp)]
    refine wpAny_bind (wpAny_dictEpoch hoa hda ?_)
    refine wpAny_bind ?_
    rw [Std.Legacy.Range.forIn_eq_forIn_range']
    simp only [Std.Legacy.Range.size, Nat.sub_zero, Nat.add_sub_cancel, Nat.div_one, hz]
    refine wpAny_forIn_list _
      (fun rest q s' => s' = s ∧ q = (none, ()) ∧ rest = [])
      _ ?_ ?_ _ _ ⟨rfl, rfl, rfl⟩
    · rintro x rest q s' ⟨_, _, hr⟩
      cases hr
    · rintro q s' ⟨rfl, rfl, _⟩
      exact wpAny_pure h'
theorem v34_ne0 {a b : Addr} {oa ob : Obj} {es es' : Array DictEntry} {ep ep' : Nat} {Q : Value → Shared → Prop} (ha : (a == sysModules) = false) (hb : (b == sysModules) = false)
    (hoa : s.heap.get? a = some oa) (ta : oa.ExactDict) (hda : oa.data = .dict es ep) (hob : s.heap.get? b = some ob) (tb : ob.ExactDict) (hdb : ob.data = .dict es' ep') (h0 : es'.size = 0) (hu : A.units < cLine) (h : Q (.bool (!(es.size == 0))) s) :
    wpAny (model prog w) A (compareOp .NotEq (.ref a) (.ref b)) Q E s := by
  have tya : s.TypeIs (.ref a) "dict" := ⟨oa, hoa, ta.1⟩
  have tyb : s.TypeIs (.ref b) "dict" := ⟨ob, hob, tb.1⟩
  refine wpAny_richCompare_same_room (op := .NotEq) tya tyb PySem.F.slot_dict_ne (wpAny_call_entry PySem.F.slot_dict_ne tya PySem.F.entry_dict_ne ?_ (PySem.F.args_dict_ne_2 _ _)) hu
  show wpAny _ _ (Builtin.Dict.dictSlotArgs "__ne__" ⟨[.ref a, .ref b], []⟩ >>= _) _ _ s
  refine wpAny_bind ?_
  unfold Builtin.Dict.dictSlotArgs
  refine wpAny_bind (wpAny_notOrdered_dict tya ?_)
  show wpAny _ _ (pure (Value.ref a, Value.ref b)) _ _ s
  refine wpAny_pure ?_
  refine wpAny_bind (wpAny_isInstance (T := "dict") tyb PySem.F.sub_dict_dict ?_)
  simp only [Bool.not_true, Bool.false_eq_true, if_false]
  refine wpAny_bind (wpAny_pure (wpAny_bind (wpAny_pure ?_)))
  refine wpAny_bind (v34_same0 ha hb hoa hda hob hdb h0 ?_)
  refine wpAny_pure ⟨_, rfl, ?_, ?_⟩
  · exact fun x => nomatch x
  · simpa using h
end
end PySem.W
namespace Vl
open PySem PySem.Spec PyProof.Rows L2 Hl
section
variable {Γ : Gx} {X : Cx} {T : Wo} {σ : L2.St} {ρ : Vn} {o : Expr} {pos : Pos} {i : Nat}
/-! ### d != {} -/
def rTne : R2 := fun x y H Q => ∃ a b ks, x = .ref a ∧ y = .ref b ∧ H a = some (.dT ks) ∧ H b = some (.dT []) ∧ Q (.bl (!ks.isEmpty)) H
theorem op_tne (hu : X.A.units < cLine) : OpR X (compareOp .NotEq) rTne := by
  intro pins s σ H x y v u Q I rx ry h
  obtain ⟨a, b, ks, rfl, rfl, ea, eb, q⟩ := h
  obtain rfl : v = Value.ref a := rx
  obtain rfl : u = Value.ref b := ry
  obtain ⟨_, ya, va, pa, oa, es, ep, ga, xa, da, la, _⟩ := (show ObjOk X.prog X.w H s.heap a (.dT ks) from I.hok a _ ea)
  obtain ⟨_, yb, vb, pb, ob, es', ep', gb, xb, db, lb, _⟩ := (show ObjOk X.prog X.w H s.heap b (.dT []) from I.hok b _ eb)
  have l1 : es.size = va.length := size_of_entries la
  have l2 : ks.length = va.length := Paired.length pa
  have l3 : es'.size = vb.length := size_of_entries lb
  have l4 : ([] : List (List Key × V)).length = vb.length := Paired.length pb
  refine PySem.W.v34_ne0 ya yb ga xa da gb xb db (by rw [l3, ← l4]; rfl) hu (fin_bl I q ?_)
  rw [l1, ← l2]
  cases ks <;> rfl
@[simp] def wTne (i : Nat) : WE := fun ρ Q => cDit (ρ.getD i .no) fun l => Q (.bl (!l.isEmpty)) ρ
theorem se_tne : SE Γ (tOp rTne (tVar i) tDNewT) (wTne i) := ⟨fun {T σ ρ Q Q'} S hw q => by
  obtain ⟨p, vs, l, hi', hs, hp, r, nF, n0, nd, q1⟩ := S.ditAt hw
  refine ⟨_, hs, fun b n => ?_⟩
  have g := Gr.priv (o := .dT []) S.ok n
  refine ⟨p, b, vs, rfl, rfl, by rw [upd_ne (ne_of_none hp n)]; exact hp, upd_same, ?_⟩
  have e : vs.isEmpty = l.isEmpty := by
    have := r.len
    cases vs <;> cases l <;> first | rfl | (simp at this)
  rw [e]
  exact q _ ⟨T.F, T.H0, T.Hd, upd T.H b (.dT []), T.P⟩ _ ρ (S.grow g) g.ext (.bl _) q1⟩
theorem ve_tne {dpos : Pos} (hu : X.A.units < cLine) (ho : PE X o (tVar i)) (hm : behindInMarks .NotEq (.Dict [] [] dpos) = false := by rfl) : VE Γ X (.Compare o [.NotEq] [.Dict [] [] dpos] pos) (tOp rTne (tVar i) tDNewT) (wTne i) := ⟨pe_cmpR (op_tne hu) ho pe_dnewT hm, se_tne⟩
theorem vt_tne {dpos : Pos} (hu : X.A.units < cLine) (ho : PE X o (tVar i)) (hm : behindInMarks .NotEq (.Dict [] [] dpos) = false := by rfl) : VT Γ X (.Compare o [.NotEq] [.Dict [] [] dpos] pos) (tTest (tOp rTne (tVar i) tDNewT)) (wTst (wTne i)) := ⟨pt_cmpR (op_tne hu) ho pe_dnewT hm, st_tst se_tne⟩
/-! ### list(d): the keys -/
open Classical in
noncomputable def tupH (T : Wo) : Hp := fun b => match T.H0 b with
  | some x => some x
  | none => match T.H b with
    | some (.tup vs) => some (.tup vs)
    | _ => none
theorem tupH_0 {b : Addr} {x : HO} (h : T.H0 b = some x) : tupH T b = some x := by unfold tupH; rw [h]
theorem tupH_at {b : Addr} {x : HO} (h : tupH T b = some x) : T.H0 b = some x ∨ (T.H0 b = none ∧ T.H b = some x ∧ ∃ vs, x = .tup vs) := by
  unfold tupH at h
  cases e : T.H0 b with
  | some y => rw [e] at h; exact .inl h
  | none =>
    rw [e] at h
    cases e2 : T.H b with
    | none => rw [e2] at h; cases h
    | some y =>
      rw [e2] at h
      cases y <;> first | cases h; done | skip
      exact .inr ⟨rfl, h, _, (Option.some.inj h).symm⟩
theorem tupH_t {b : Addr} {vs : List V} (ok : T.Ok) (h : T.H b = some (.tup vs)) : tupH T b = some (.tup vs) := by
  cases e : T.H0 b with
  | some y =>
    have := ok.s0 _ _ e
    rw [h] at this; cases this
    exact tupH_0 e
  | none => unfold tupH; rw [e, h]
theorem tupH_ok (ok : T.Ok) : Wo.Ok ⟨T.F, tupH T, T.Hd, T.H, T.P⟩ := by
  refine ⟨ok.sF, fun b x e => ?_, ok.sd, fun {b x} e => ?_, ok.Fd, fun {b x} e => ?_, ok.ft, ok.dt⟩
  · rcases tupH_at e with h | ⟨_, h, _⟩
    · exact ok.s0 _ _ h
    · exact h
  · show tupH T b = none
    cases e2 : tupH T b with
    | none => rfl
    | some y =>
      rcases tupH_at e2 with h | ⟨_, h, vs, rfl⟩
      · rw [ok.F0 e] at h; cases h
      · have := ok.sF _ _ e
        rw [h] at this; cases this
        exact absurd e ok.ft
  · show T.Hd b = none
    rcases tupH_at e with h | ⟨_, h, vs, rfl⟩
    · exact ok.zd h
    · cases e2 : T.Hd b with
      | none => rfl
      | some y =>
        have := ok.sd _ _ e2
        rw [h] at this; cases this
        exact absurd e2 ok.dt
theorem tupH_sv (S : Sv Γ T σ ρ) : Sv Γ ⟨T.F, tupH T, T.Hd, T.H, T.P⟩ σ ρ := S.after (tupH_ok S.ok) (fun b x e => tupH_0 e) (fun _ h => h) fun p x hx h1 h2 h3 => ⟨h1, by
  cases e : tupH T p with
  | none => rfl
  | some y =>
    rcases tupH_at e with h | ⟨_, h, vs, rfl⟩
    · rw [h2] at h; cases h
    · rw [h1] at h; cases h
      exact absurd rfl (hx vs), h3⟩
theorem ra_kD {H0 Hd : Hp} : ∀ k : List Key, RA Γ H0 Hd (k.map kV) (k.map kD)
  | [] => .nil
  | .inl i :: r => .cons (.int i) (ra_kD r)
  | .inr z :: r => .cons (.str z) (ra_kD r)
theorem ra_keys {H0 Hd : Hp} : ∀ {vs : List (List Key × V)} {l : List (List Key × D)} {bs : List Addr}, (∀ {b ws}, T.H b = some (.tup ws) → H0 b = some (.tup ws)) → RKT Γ T.H0 T.Hd vs l → IsKeys T.H vs bs → RA Γ H0 Hd (bs.map V.ref) (l.map fun e => .tup (e.1.map kD))
  | _, _, _, _, .nil, .nil => .nil
  | _, _, _, h0, .cons h t, .cons e u => .cons (.tup (h0 e) (ra_kD _)) (ra_keys h0 t u)
@[simp] def wTlist (i : Nat) : WF := fun ρ Q => cDit (ρ.getD i .no) fun l => Q (l.map fun e => .tup (e.1.map kD)) ρ
theorem vf_tlist {p : Pos} (hc : X.calm = true) (hg : Gl X "list") (hm : X.mg "list" = none) (ho : PE X o (tVar i))
    (he : starEach [o] X.env = (false, eval o X.env) :: starEach [] X.env := by rfl) (hpl : (backTo pos (starEach [] X.env)).any (·.1) = false := by rfl) : VF Γ X (.Call (.Name "list" p) [o] [] pos) (tCB (fun xs H Q => ∃ d kvs, xs = [V.ref d] ∧ Rd H d (.dT kvs) ∧ ∀ p bs, H p = none → IsKeys H kvs bs → Q (.ref p) (upd H p (.lst (bs.map V.ref)))) (tCons (tVar i) tNil)) (wTlist i) := ⟨pe_callTy (call_list_dT hc) hg hm rfl (pa_cons ho pa_nil he) (by decide) (by decide) he hpl, ⟨fun {T σ ρ Q Q'} S hw q => by
  obtain ⟨p, vs, l, hi', hs, hp, r, nF, n0, nd, q1⟩ := S.ditAt hw
  refine ⟨_, hs, p, vs, rfl, .inl hp, fun b bs n ik => ?_⟩
  have S1 := tupH_sv S
  have g := Gr.priv (T := ⟨T.F, tupH T, T.Hd, T.H, T.P⟩) (o := .lst (bs.map V.ref)) S1.ok n
  exact q b _ ⟨T.F, tupH T, T.Hd, upd T.H b (.lst (bs.map V.ref)), T.P⟩ _ ρ (S1.grow g) ⟨rfl, rfl, fun b x e => tupH_0 e, fun _ h => h⟩ upd_same (none_of_le S1.ok.sF n) (none_of_le S1.ok.s0 n) (none_of_le S1.ok.sd n) (fresh_priv S1 n) (ra_keys (fun h => tupH_t S.ok h) r ik) q1⟩⟩
end
end Vl

namespace Vl
open PySem PySem.Spec PySem.Calls PyProof.Rows PyProof.V L2 Hl
section
variable {Γ : Gx} {X : Cx} {T : Wo} {σ : L2.St} {ρ : Vn} {pos : Pos} {i : Nat}
/-! ### x += e -/
theorem vs_augE {f : Int → Int → Int} {op : Operator} {x : Str} {e : Expr} {te : TE} {we : WE} {tpos : Pos} (hN : X.N.Nodup) (hi : X.N[i]? = some x) (hx : Loc X.env.scope x) (h : VE Γ X e te we) (hip : PIp X op (ipI f)) (hf : X.fn x = true ∨ X.env.scope.names.lookup x = some .local := by first | exact .inl rfl | exact .inr rfl | assumption) :
    VS Γ X (.AugAssign (.Name x tpos) op e pos) (tAug i te (ipI f)) (wAug i f we) := ⟨ps_aug hN hi hx h.pe hip hf, ss_aug h.se⟩
/-! ### a < b < c < d -/
def tChain3 (r1 r2 r3 : R2) (ta tb tc td : TE) : TE := fun σ H Q => ta σ H fun x H1 => tb σ H1 fun y H2 => r1 x y H2 fun z H3 => ∃ k, z = .bl k ∧
  (if k = true then tc σ H3 fun u H4 => r2 y u H4 fun z2 H5 => ∃ k2, z2 = .bl k2 ∧ (if k2 = true then td σ H5 fun v H6 => r3 u v H6 Q else Q (.bl false) H5) else Q (.bl false) H3)
variable {a b c d : Expr} {ta tb tc td : TE}
theorem pe_chain3 {o1 o2 o3 : CmpOp} {r1 r2 r3 : R2} (h1 : OpR X (compareOp o1) r1) (h2 : OpR X (compareOp o2) r2) (h3 : OpR X (compareOp o3) r3) (ha : PE X a ta) (hb : PE X b tb) (hc : PE X c tc) (hd : PE X d td)
    (hm : lastMarks [o1, o2, o3] [b, c, d] = false := by with_unfolding_all rfl) : PE X (.Compare a [o1, o2, o3] [b, c, d] pos) (tChain3 r1 r2 r3 ta tb tc td) := by
  refine ⟨fun pins s σ H Q I h => ?_⟩
  refine Compare_chain (thn (ha.run pins s σ H _ I h) fun v s1 ⟨x, H1, I1, rr1, q1⟩ => chain_link (thn (hb.run pins s1 σ H1 _ I1 q1) fun u s2 ⟨y, H2, I2, rr2, q2⟩ =>
    thn (h1 pins s2 σ H2 x y v u _ I2 rr1 rr2 q2) fun d s3 ⟨z, H3, I3, rr3, k, e, q3⟩ => ?_)) hm
  subst e
  cases rr3
  refine wpAny_truthy_bool ?_
  cases k with
  | false => exact ite_ff ⟨.bl false, H3, I3, rfl, q3⟩
  | true =>
    refine ite_tt (chain_link (thn (hc.run pins s3 σ H3 _ I3 q3) fun w' s4 ⟨z', H4, I4, rr4, q4⟩ => thn (h2 pins s4 σ H4 y z' u w' _ I4 rr2 rr4 q4) fun d' s5 ⟨z2, H5, I5, rr5, k2, e2, q5⟩ => ?_))
    subst e2
    cases rr5
    refine wpAny_truthy_bool ?_
    cases k2 with
    | false => exact ite_ff ⟨.bl false, H5, I5, rfl, q5⟩
    | true => exact ite_tt (chain_last (thn (hd.run pins s5 σ H5 _ I5 q5) fun w2 s6 ⟨z3, H6, I6, rr6, q6⟩ => h3 pins s6 σ H6 z' z3 w' w2 Q I6 rr4 rr6 q6))
theorem pt_chain3 {o1 o2 o3 : CmpOp} {r1 r2 r3 : R2} (h1 : OpR X (compareOp o1) r1) (h2 : OpR X (compareOp o2) r2) (h3 : OpR X (compareOp o3) r3) (ha : PE X a ta) (hb : PE X b tb) (hc : PE X c tc) (hd : PE X d td)
    (hm : lastMarks [o1, o2, o3] [b, c, d] = false := by with_unfolding_all rfl) : PT X (.Compare a [o1, o2, o3] [b, c, d] pos) (tTest (tChain3 r1 r2 r3 ta tb tc td)) := by
  refine ⟨fun pins s σ H Q I h => ?_⟩
  refine isTrue_chain (thn (ha.run pins s σ H _ I h) fun v s1 ⟨x, H1, I1, rr1, q1⟩ => test_link (thn (hb.run pins s1 σ H1 _ I1 q1) fun u s2 ⟨y, H2, I2, rr2, q2⟩ =>
    thn (h1 pins s2 σ H2 x y v u _ I2 rr1 rr2 q2) fun d s3 ⟨z, H3, I3, rr3, k, e, q3⟩ => ?_)) hm
  subst e
  cases rr3
  refine wpAny_truthy_bool ?_
  cases k with
  | false =>
    obtain ⟨k', e', q'⟩ := q3
    cases e'
    exact ite_ff ⟨H3, I3, q'⟩
  | true =>
    refine ite_tt (test_link (thn (hc.run pins s3 σ H3 _ I3 q3) fun w' s4 ⟨z', H4, I4, rr4, q4⟩ => thn (h2 pins s4 σ H4 y z' u w' _ I4 rr2 rr4 q4) fun d' s5 ⟨z2, H5, I5, rr5, k2, e2, q5⟩ => ?_))
    subst e2
    cases rr5
    refine wpAny_truthy_bool ?_
    cases k2 with
    | false =>
      obtain ⟨k', e', q'⟩ := q5
      cases e'
      exact ite_ff ⟨H5, I5, q'⟩
    | true =>
      refine ite_tt (test_last (thn (hd.run pins s5 σ H5 _ I5 q5) fun w2 s6 ⟨z3, H6, I6, rr6, q6⟩ => thn (h3 pins s6 σ H6 z' z3 w' w2 _ I6 rr4 rr6 q6) fun d3 s7 ⟨z4, H7, I7, rr7, k3, e3, q7⟩ => ?_))
      subst e3
      cases rr7
      exact wpAny_truthy_bool ⟨H7, I7, q7⟩
@[simp] def wChain3 (g1 g2 g3 : G2) (wa wb wc wd : WE) : WE := fun ρ Q => wa ρ fun x ρ1 => wb ρ1 fun y ρ2 => g1 x y fun z => cBl z fun k => (k = true → wc ρ2 fun u ρ3 => g2 y u fun z2 => cBl z2 fun k2 => (k2 = true → wd ρ3 fun v ρ4 => g3 u v fun z' => Q z' ρ4) ∧ (k2 = false → Q (.bl false) ρ3)) ∧ (k = false → Q (.bl false) ρ2)
theorem se_chain3 {r1 r2 r3 : R2} {g1 g2 g3 : G2} {wa wb wc wd : WE} (o1 : OS Γ r1 g1) (o2 : OS Γ r2 g2) (o3 : OS Γ r3 g3) (ha : SE Γ ta wa) (hb : SE Γ tb wb) (hc : SE Γ tc wc) (hd : SE Γ td wd) : SE Γ (tChain3 r1 r2 r3 ta tb tc td) (wChain3 g1 g2 g3 wa wb wc wd) := ⟨fun {T σ ρ Q Q'} S h q =>
  ha.h S h fun x T1 dx ρ1 S1 e1 rr1 q1 => hb.h S1 q1 fun y T2 dy ρ2 S2 e2 rr2 q2 => o1.h S2.ok (.sh (rr1.ext e2)) (.sh rr2) q2 fun z T3 dz G3 rr3 q3 => by
    obtain ⟨k, rfl, q3⟩ := cBl_of q3
    cases rr3
    refine ⟨k, rfl, ?_⟩
    have S3 := S2.grow G3
    have e3 := (e1.trans e2).trans G3.ext (Γ := Γ)
    cases k with
    | false => exact iteF (q (.bl false) T3 (.bl false) ρ2 S3 e3 (.bl false) (q3.2 rfl))
    | true =>
      refine iteT (hc.h S3 (q3.1 rfl) fun u T4 du ρ4 S4 e4 rr4 q4 => o2.h S4.ok (.sh ((rr2.ext G3.ext).ext e4)) (.sh rr4) q4 fun z2 T5 dz2 G5 rr5 q5 => ?_)
      obtain ⟨k2, rfl, q5⟩ := cBl_of q5
      cases rr5
      refine ⟨k2, rfl, ?_⟩
      have S5 := S4.grow G5
      have e5 := (e3.trans e4).trans G5.ext (Γ := Γ)
      cases k2 with
      | false => exact iteF (q (.bl false) T5 (.bl false) ρ4 S5 e5 (.bl false) (q5.2 rfl))
      | true => exact iteT (hd.h S5 (q5.1 rfl) fun v T6 dv ρ6 S6 e6 rr6 q6 => o3.h S6.ok (.sh ((rr4.ext G5.ext).ext e6)) (.sh rr6) q6 fun v' T7 d7 g7 rr7 q7 => q v' T7 d7 ρ6 (S6.grow g7) ((e5.trans e6).trans g7.ext) rr7 q7)⟩
theorem ve_chain3 {o1 o2 o3 : CmpOp} {r1 r2 r3 : R2} {g1 g2 g3 : G2} {wa wb wc wd : WE} (h1 : OpR X (compareOp o1) r1) (h2 : OpR X (compareOp o2) r2) (h3 : OpR X (compareOp o3) r3) (s1 : OS Γ r1 g1) (s2 : OS Γ r2 g2) (s3 : OS Γ r3 g3) (ha : VE Γ X a ta wa) (hb : VE Γ X b tb wb) (hc : VE Γ X c tc wc) (hd : VE Γ X d td wd)
    (hm : lastMarks [o1, o2, o3] [b, c, d] = false := by with_unfolding_all rfl) : VE Γ X (.Compare a [o1, o2, o3] [b, c, d] pos) (tChain3 r1 r2 r3 ta tb tc td) (wChain3 g1 g2 g3 wa wb wc wd) := ⟨pe_chain3 h1 h2 h3 ha.pe hb.pe hc.pe hd.pe hm, se_chain3 s1 s2 s3 ha.se hb.se hc.se hd.se⟩
theorem vt_chain3 {o1 o2 o3 : CmpOp} {r1 r2 r3 : R2} {g1 g2 g3 : G2} {wa wb wc wd : WE} (h1 : OpR X (compareOp o1) r1) (h2 : OpR X (compareOp o2) r2) (h3 : OpR X (compareOp o3) r3) (s1 : OS Γ r1 g1) (s2 : OS Γ r2 g2) (s3 : OS Γ r3 g3) (ha : VE Γ X a ta wa) (hb : VE Γ X b tb wb) (hc : VE Γ X c tc wc) (hd : VE Γ X d td wd)
    (hm : lastMarks [o1, o2, o3] [b, c, d] = false := by with_unfolding_all rfl) : VT Γ X (.Compare a [o1, o2, o3] [b, c, d] pos) (tTest (tChain3 r1 r2 r3 ta tb tc td)) (wTst (wChain3 g1 g2 g3 wa wb wc wd)) := ⟨pt_chain3 h1 h2 h3 ha.pe hb.pe hc.pe hd.pe hm, st_tst (se_chain3 s1 s2 s3 ha.se hb.se hc.se hd.se)⟩
end
end Vl

namespace Vl
open PySem PySem.Spec PyProof.Rows L2 Hl
/-- [x for x in l if some test that is drawn]: some part of l -/
theorem lc_sub {α : Type} (enc : α → D) {i : Nat} {c : WT} {ρ : Vn} {Q : List D → Vn → Prop} (hi : i < ρ.length) : ∀ (l : List α) (acc : List D),
    (∀ a ∈ l, ∀ K : Bool → Vn → Prop, (∀ b, K b (ρ.set i (.val (enc a)))) → c (ρ.set i (.val (enc a))) K) → ρ.set i .no = ρ → acc.length + l.length ≤ sizeLine → (∀ l' : List α, l'.Sublist l → Q (acc ++ l'.map enc) ρ) → lcV (gV i) c (wVar i) [i] (l.map enc) acc ρ Q
  | [], acc, _, _, _, h => by simpa using h [] .slnil
  | a :: l, acc, hs, h0, hz, h => by
    rw [List.map_cons]
    rw [List.length_cons] at hz
    have hs' := fun x hx => hs x (List.mem_cons_of_mem a hx)
    have hw : wipeV (ρ.set i (.val (enc a))) [i] = ρ := by simp [wipeV, h0]
    have n1 := lc_sub enc (i := i) (c := c) (Q := Q) hi l (acc ++ [enc a]) hs' h0 (by simp; omega) fun l' s => by
      have := h (a :: l') (s.cons₂ a)
      simpa using this
    have n2 := lc_sub enc (i := i) (c := c) (Q := Q) hi l acc hs' h0 (by omega) fun l' s => h l' (s.cons a)
    unfold lcV
    refine hs a (List.mem_cons_self ..) _ fun b => ⟨fun _ => ?_, fun _ => ?_⟩
    · have e : (ρ.set i (Cell.val (enc a))).getD i .no = .val (enc a) := by simp [hi]
      show wVar i (ρ.set i (Cell.val (enc a))) _
      unfold wVar
      rw [e]
      show _ ∧ lcV _ _ _ _ _ _ (wipeV (ρ.set i (.val (enc a))) [i]) _
      rw [hw]
      exact ⟨by omega, n1⟩
    · rw [hw]
      exact n2
end Vl

namespace K40
open PySem PySem.Spec PyProof.Rows L2 Hl Vl
def W_is_integer : WF1 := wDef 1 1
  (wRet (wAndV (wIsiT ["FooledRuns", "Keeping"] [.int] (wSl 0)) (wUn gNot (wIsiT ["FooledRuns", "Keeping"] [.bool] (wSl 0)))))
def W_is_number : WF1 := wDef 2 2
  (wRet (wAndV (wCall W_is_integer [] (wCons (wSl 0) wNil)) (wAndV (wOp gGe (wSl 0) (wOf (wC (.int 0)))) (wOrV (wOp gIsN (wSl 1) (wOf (wC .non))) (wOp gLe (wSl 0) (wSl 1))))))
def W_is_sequence : WF1 := wDef 1 1
  (wRet (wIsiT ["FooledRuns", "Keeping"] [.list, .tuple] (wSl 0)))
def W_is_ascending : WF1 := wDef 1 2
  (wRet (wCB gAll (wCons (wOf (wFz (wLc (wRg2 (wCons (wOf (wC (.int 1))) (wCons (wOf (wCB gLen (wCons (wSl 0) wNil))) wNil))) (gV 1) wYes (wOp gLt (wOf (wOp gIx (wSl 0) (wOf (wOp gSub (wSl 1) (wOf (wC (.int 1))))))) (wOf (wOp gIx (wSl 0) (wSl 1)))) [1]))) wNil)))
def W_lot_of : WF1 := wDef 2 3
  (wSeq (wIf (wOr (wNot (wTru (wOf (wCall W_is_sequence [] (wCons (wSl 0) wNil))))) (wNot (wTru (wOf (wCB gAll (wCons (wOf (wFz (wLc (wIt (wSl 0)) (gV 2) wYes (wCall W_is_number [] (wCons (wSl 2) (wCons (wOf (wOp gSub (wSl 1) (wOf (wC (.int 1))))) wNil))) [2]))) wNil))))))
  (wRet (wC .non))
  wNext)
  (wRet (wIfE (wTru (wOf (wCall W_is_ascending [] (wCons (wSl 0) wNil)))) (wCB gTuple (wCons (wSl 0) wNil)) (wC .non))))
def W_is_state_row : WF1 := wDef 3 4
  (wSeq (wIf (wOr (wNot (wTru (wOf (wCall W_is_sequence [] (wCons (wSl 2) wNil))))) (wOr (wNot (wTst (wChain gLe gLe (wC (.int 1)) (wCB gLen (wCons (wSl 2) wNil)) (wC (.int 12))))) (wTst (wOp gNe (wOf (wCB gLen (wCons (wSl 2) wNil))) (wOf (wCB gLen (wCons (wOf (wOp gIx (wSl 1) (wOf (wC (.int 0))))) wNil)))))))
  (wRet (wC (.bl false)))
  wNext)
  (wRet (wCB gAll (wCons (wOf (wFz (wLc (wIt (wSl 2)) (gV 3) wYes (wCall W_is_number [] (wCons (wSl 3) (wCons (wOf (wOp gSub (wSl 0) (wOf (wC (.int 1))))) wNil))) [3]))) wNil))))
def W_Keeping_init_L1 : WS :=
  (wSeq (wIf (wOr (wNot (wTru (wOf (wCall W_is_state_row [] (wCons (wSl 1) (wCons (wSl 2) (wCons (wSl 5) wNil))))))) (wTst (wTin false 3 (wCB gTuple (wCons (wSl 5) wNil)))))
  wNev
  wNext)
  (wTput 3 (wVar 4) (wCB gTuple (wCons (wSl 5) wNil))))
def W_Keeping_init : WN := wInit 2 6 "Keeping"
  (wSeq (wIf (wOr (wNot (wTru (wOf (wCall W_is_number [] (wCons (wSl 1) (wCons (wOf (wC (.int 12))) wNil)))))) (wTst (wOp gLt (wSl 1) (wOf (wC (.int 2))))))
  wNev
  wNext)
  (wSeq (wIf (wOr (wNot (wTru (wOf (wCall W_is_sequence [] (wCons (wSl 2) wNil))))) (wNot (wTst (wChain gLe gLe (wC (.int 1)) (wCB gLen (wCons (wSl 2) wNil)) (wC (.int 128))))))
  wNev
  wNext)
  (wSeq (wSetT 3)
  (wSeq (wFor (wEnum (wCons (wSl 2) wNil)) (gTupV 2 (gConsV (gV 4) (gConsV (gV 5) gNilV)))
  W_Keeping_init_L1)
  (wSeq (wFldS 0 "Keeping" "states" (wVar 1))
  (wFldS 0 "Keeping" "rows" (wCB gTuple (wCons (wOf (wFz (wLc (wIt (wSl 2)) (gV 5) wYes (wCB gTuple (wCons (wSl 5) wNil)) [5]))) wNil))))))))
def W_unlike_at : WF1 := wDef 4 7
  (wSeq (wParT [4, 5] (wQc (wQv (wOp gIx (wOf (wFld "rows" (wVar 0))) (wSl 1))) (wQc (wQv (wOp gIx (wOf (wFld "rows" (wVar 0))) (wSl 2))) wQn)))
  (wRet (wCB gTuple (wCons (wOf (wFz (wLc (wIt (wSl 3)) (gV 6) (wTst (wOp gNe (wOf (wOp gIx (wSl 4) (wSl 6))) (wOf (wOp gIx (wSl 5) (wSl 6))))) (wVar 6) [6]))) wNil))))
def W_twins_L1 : WS :=
  (wSeq (wSet (wCB gLen (wCons (wOf (wCall W_unlike_at [] (wCons (wSl 0) (wCons (wSl 3) (wCons (wSl 4) (wCons (wSl 1) wNil)))))) wNil)) (gV 5))
  (wIf (wOr (wTst (wOp gIsN (wSl 2) (wOf (wC .non)))) (wTst (wOp gLt (wSl 5) (wOf (wOp gIx (wSl 2) (wOf (wC (.int 0))))))))
  (wSet (wTup (wCons (wOf (wVar 5)) (wCons (wOf (wVar 3)) (wCons (wOf (wVar 4)) wNil)))) (gV 2))
  wNext))
def W_twins_L2 : WS :=
  (wFor (wRg2 (wCons (wOf (wOp gAdd (wSl 3) (wOf (wC (.int 1))))) (wCons (wOf (wCB gLen (wCons (wOf (wFld "rows" (wVar 0))) wNil))) wNil))) (gV 4)
  W_twins_L1)
def W_twins : WF1 := wDef 2 6
  (wSeq (wSet (wC .non) (gV 2))
  (wSeq (wFor (wRg1 (wCons (wOf (wCB gLen (wCons (wOf (wFld "rows" (wVar 0))) wNil))) wNil)) (gV 3)
  W_twins_L2)
  (wRet (wIfE (wTst (wOp gIsN (wSl 2) (wOf (wC .non)))) (wC .non) (wSl3 (wSl 2) (wPS (wC (.int 1))) wPN)))))
def W_least_unlike : WF1 := wDef 2 3
  (wSeq (wSet (wCall W_twins [] (wCons (wSl 0) (wCons (wSl 1) wNil))) (gV 2))
  (wRet (wIfE (wTst (wOp gIsN (wSl 2) (wOf (wC .non)))) (wC .non) (wCB gLen (wCons (wOf (wCall W_unlike_at [] (wCons (wSl 0) (wCons (wOf (wOp gIx (wSl 2) (wOf (wC (.int 0))))) (wCons (wOf (wOp gIx (wSl 2) (wOf (wC (.int 1))))) (wCons (wSl 1) wNil)))))) wNil)))))
def W_lies_needed : WF1 := wDef 2 2
  (wRet (wIfE (wTru (wSl 1)) (wVar 0) (wOp gMul (wOf (wC (.int 2))) (wSl 0))))
def W_is_readable : WF1 := wDef 4 5
  (wSeq (wSet (wCall W_least_unlike [] (wCons (wSl 0) (wCons (wSl 1) wNil))) (gV 4))
  (wRet (wOrV (wOp gIsN (wSl 4) (wOf (wC .non))) (wOp gGt (wSl 4) (wOf (wCall W_lies_needed [] (wCons (wSl 2) (wCons (wSl 3) wNil))))))))
def W_lies_in_L1 : WS :=
  (wIf (wOr (wTst (wOp gIsN (wSl 8) (wOf (wC .non)))) (wAnd (wTst (wOp gNe (wSl 8) (wOf (wOp gIx (wSl 5) (wSl 7))))) (wNot (wTru (wSl 4)))))
  (wAug 6 (fun i j => i + j) (wC (.int 1)))
  (wIf (wTst (wOp gNe (wSl 8) (wOf (wOp gIx (wSl 5) (wSl 7)))))
  (wRet (wC .non))
  wNext))
def W_lies_in : WF1 := wDef 5 9
  (wSeq (wPar2 5 6 (wQc (wQv (wOp gIx (wOf (wFld "rows" (wVar 0))) (wSl 1))) (wQc (wQv (wC (.int 0))) wQn)))
  (wSeq (wFor (wZip (wCons (wSl 2) (wCons (wSl 3) wNil))) (gTupV 2 (gConsV (gV 7) (gConsV (gV 8) gNilV)))
  W_lies_in_L1)
  (wRet (wVar 6))))
def W_readings_L1 : WS :=
  (wSeq (wSet (wCall W_lies_in [] (wCons (wSl 0) (wCons (wSl 6) (wCons (wSl 1) (wCons (wSl 2) (wCons (wSl 4) wNil)))))) (gV 7))
  (wIf (wAnd (wTst (wOp gNotN (wSl 7) (wOf (wC .non)))) (wTst (wOp gLe (wSl 7) (wSl 3))))
  (wDrop (wApp 5 (wVar 6)))
  wNext))
def W_readings : WF1 := wDef 5 8
  (wSeq (wSetF 5 (wLst wNil))
  (wSeq (wFor (wRg1 (wCons (wOf (wCB gLen (wCons (wOf (wFld "rows" (wVar 0))) wNil))) wNil)) (gV 6)
  W_readings_L1)
  (wRet (wCB gTuple (wCons (wSl 5) wNil)))))
def W_only_reading : WF1 := wDef 5 6
  (wSeq (wSet (wCall W_readings [] (wCons (wSl 0) (wCons (wSl 1) (wCons (wSl 2) (wCons (wSl 3) (wCons (wSl 4) wNil)))))) (gV 5))
  (wRet (wIfE (wTst (wOp gEq (wOf (wCB gLen (wCons (wSl 5) wNil))) (wOf (wC (.int 1))))) (wOp gIx (wSl 5) (wOf (wC (.int 0)))) (wC .non))))
def W_crowded_L1 : WS :=
  (wSeq (wSet (wCB gTuple (wCons (wOf (wFz (wLc (wIt (wSl 1)) (gV 6) wYes (wOp gIx (wSl 4) (wSl 6)) [6]))) wNil)) (gV 5))
  (wSeq (wIf (wTst (wTin false 2 (wVar 5)))
  (wRet (wTup (wCons (wOf (wTget 2 (wVar 5))) (wCons (wOf (wVar 3)) wNil))))
  wNext)
  (wTput 2 (wVar 3) (wVar 5))))
def W_crowded : WF1 := wDef 2 7
  (wSeq (wSetT 2)
  (wSeq (wFor (wEnum (wCons (wOf (wFld "rows" (wVar 0))) wNil)) (gTupV 2 (gConsV (gV 3) (gConsV (gV 4) gNilV)))
  W_crowded_L1)
  (wRet (wC .non))))
def W_FooledRuns_init : WN := wInit 5 6 "FooledRuns"
  (wSeq (wFldS 0 "FooledRuns" "one" (wVar 1))
  (wSeq (wFldS 0 "FooledRuns" "other" (wVar 2))
  (wSeq (wFldS 0 "FooledRuns" "liars" (wVar 3))
  (wSeq (wFldS 0 "FooledRuns" "others" (wVar 4))
  (wFldS 0 "FooledRuns" "shown" (wVar 5))))))
def W_shown_alike_L1 : WS :=
  (wIf (wAnd (wTru (wSl 6)) (wOr (wTst (wOp (gInP false) (wSl 8) (wSl 4))) (wTst (wOp (gInP false) (wSl 8) (wSl 5)))))
  (wDrop (wApp 7 (wC .non)))
  (wDrop (wApp 7 (wOp gIx (wOf (wOp gIx (wOf (wFld "rows" (wVar 0))) (wOf (wIfE (wTst (wOp (gInP false) (wSl 8) (wSl 4))) (wVar 2) (wVar 1))))) (wSl 8)))))
def W_shown_alike : WF1 := wDef 7 9
  (wSeq (wSetF 7 (wLst wNil))
  (wSeq (wFor (wIt (wSl 3)) (gV 8)
  W_shown_alike_L1)
  (wRet (wCB gTuple (wCons (wSl 7) wNil)))))
def W_fooled_runs : WF1 := wDef 4 9
  (wSeq (wSet (wCall W_twins [] (wCons (wSl 0) (wCons (wSl 1) wNil))) (gV 4))
  (wSeq (wIf (wTst (wOp gIsN (wSl 4) (wOf (wC .non))))
  (wRet (wC .non))
  wNext)
  (wSeq (wSet (wCall W_unlike_at [] (wCons (wSl 0) (wCons (wOf (wOp gIx (wSl 4) (wOf (wC (.int 0))))) (wCons (wOf (wOp gIx (wSl 4) (wOf (wC (.int 1))))) (wCons (wSl 1) wNil))))) (gV 5))
  (wSeq (wIf (wTst (wOp gGt (wOf (wCB gLen (wCons (wSl 5) wNil))) (wOf (wCall W_lies_needed [] (wCons (wSl 2) (wCons (wSl 3) wNil))))))
  (wRet (wC .non))
  wNext)
  (wSeq (wSet (wIfE (wTru (wSl 3)) (wVar 5) (wSl3 (wSl 5) wPN (wPS (wVar 2)))) (gV 6))
  (wSeq (wSet (wIfE (wTru (wSl 3)) (wVar 5) (wSl3 (wSl 5) (wPS (wVar 2)) wPN)) (gV 7))
  (wSeq (wSet (wCall W_shown_alike [] (wCons (wSl 0) (wCons (wOf (wOp gIx (wSl 4) (wOf (wC (.int 0))))) (wCons (wOf (wOp gIx (wSl 4) (wOf (wC (.int 1))))) (wCons (wSl 1) (wCons (wSl 6) (wCons (wSl 7) (wCons (wSl 3) wNil)))))))) (gV 8))
  (wRet (wMake "FooledRuns" W_FooledRuns_init [] (wCons (wOf (wOp gIx (wSl 4) (wOf (wC (.int 0))))) (wCons (wOf (wOp gIx (wSl 4) (wOf (wC (.int 1))))) (wCons (wOf (wVar 6)) (wCons (wOf (wVar 7)) (wCons (wOf (wVar 8)) wNil))))))))))))))
def W_is_shown_L1 : WS :=
  (wSeq (wSet (wOp gIx (wOf (wOp gIx (wOf (wFld "rows" (wVar 0))) (wSl 1))) (wSl 6)) (gV 8))
  (wSeq (wIf (wAnd (wTst (wOp (gInP true) (wSl 6) (wSl 3))) (wTst (wOp gNe (wSl 7) (wSl 8))))
  (wRet (wC (.bl false)))
  wNext)
  (wIf (wAnd (wTru (wSl 5)) (wAnd (wTst (wOp gNotN (wSl 7) (wOf (wC .non)))) (wTst (wOp gNe (wSl 7) (wSl 8)))))
  (wRet (wC (.bl false)))
  wNext)))
def W_is_shown : WF1 := wDef 6 9
  (wSeq (wFor (wZip (wCons (wSl 2) (wCons (wSl 4) wNil))) (gTupV 2 (gConsV (gV 6) (gConsV (gV 7) gNilV)))
  W_is_shown_L1)
  (wRet (wC (.bl true))))
def W_are_states : WF1 := wDef 3 4
  (wSeq (wIf (wOr (wNot (wTru (wOf (wIsiT ["FooledRuns", "Keeping"] [.tuple] (wSl 2))))) (wTst (wOp gNe (wOf (wCB gLen (wCons (wSl 2) wNil))) (wOf (wCB gLen (wCons (wSl 1) wNil))))))
  (wRet (wC (.bl false)))
  wNext)
  (wRet (wCB gAll (wCons (wOf (wFz (wLc (wIt (wSl 2)) (gV 3) wYes (wOrV (wOp gIsN (wSl 3) (wOf (wC .non))) (wCall W_is_number [] (wCons (wSl 3) (wCons (wOf (wOp gSub (wOf (wFld "states" (wVar 0))) (wOf (wC (.int 1))))) wNil)))) [3]))) wNil))))
def W_are_fooled_runs_L1 : WS :=
  (wSeq (wIf (wOr (wNot (wTru (wOf (wIsiT ["FooledRuns", "Keeping"] [.tuple] (wSl 6))))) (wOr (wTst (wOp gIsN (wOf (wCall W_lot_of [] (wCons (wSl 6) (wCons (wOf (wCB gLen (wCons (wOf (wOp gIx (wOf (wFld "rows" (wVar 0))) (wOf (wC (.int 0))))) wNil))) wNil)))) (wOf (wC .non)))) (wTst (wOp gGt (wOf (wCB gLen (wCons (wSl 6) wNil))) (wSl 2)))))
  (wRet (wC (.bl false)))
  wNext)
  (wIf (wOr (wNot (wTru (wOf (wCB gAll (wCons (wOf (wFz (wLc (wIt (wSl 6)) (gV 8) wYes (wOp (gInP false) (wSl 8) (wSl 1)) [8]))) wNil))))) (wNot (wTru (wOf (wCall W_is_shown [] (wCons (wSl 0) (wCons (wSl 5) (wCons (wSl 1) (wCons (wSl 6) (wCons (wOf (wFld "shown" (wVar 4))) (wCons (wSl 3) wNil)))))))))))
  (wRet (wC (.bl false)))
  wNext))
def W_are_fooled_runs : WF1 := wDef 5 9
  (wSeq (wIf (wOr (wNot (wTru (wOf (wIsiO ["FooledRuns", "Keeping"] "FooledRuns" (wSl 4))))) (wNot (wTru (wOf (wCall W_are_states [] (wCons (wSl 0) (wCons (wSl 1) (wCons (wOf (wFld "shown" (wVar 4))) wNil))))))))
  (wRet (wC (.bl false)))
  wNext)
  (wSeq (wIf (wOr (wNot (wTru (wOf (wCB gAll (wCons (wOf (wFz (wLc (wIt (wOf (wTup (wCons (wOf (wFld "one" (wVar 4))) (wCons (wOf (wFld "other" (wVar 4))) wNil))))) (gV 7) wYes (wCall W_is_number [] (wCons (wSl 7) (wCons (wOf (wOp gSub (wOf (wCB gLen (wCons (wOf (wFld "rows" (wVar 0))) wNil))) (wOf (wC (.int 1))))) wNil))) [7]))) wNil))))) (wTst (wOp gEq (wOf (wFld "one" (wVar 4))) (wOf (wFld "other" (wVar 4))))))
  (wRet (wC (.bl false)))
  wNext)
  (wSeq (wFor (wIt (wOf (wTup (wCons (wOf (wTup (wCons (wOf (wFld "one" (wVar 4))) (wCons (wOf (wFld "liars" (wVar 4))) wNil)))) (wCons (wOf (wTup (wCons (wOf (wFld "other" (wVar 4))) (wCons (wOf (wFld "others" (wVar 4))) wNil)))) wNil))))) (gTupV 2 (gConsV (gV 5) (gConsV (gV 6) gNilV)))
  W_are_fooled_runs_L1)
  (wRet (wC (.bl true))))))
abbrev W__law_heap : WF1 := W_heap
abbrev W__law_draw : WF1 := W_draw
def W__law_pick : WF1 := wDef 2 2
  (wRet (wOp gIx (wSl 1) (wOf (wCall W__law_draw [] (wCons (wSl 0) (wCons (wOf (wCB gLen (wCons (wSl 1) wNil))) wNil))))))
def WP__law_pick : WFP := wDefP 2 2
  (wRet (wOp gIx (wSl 1) (wOf (wCall W__law_draw [] (wCons (wSl 0) (wCons (wOf (wCB gLen (wCons (wSl 1) wNil))) wNil))))))
def W__law_mixed_L1 : WS :=
  (wDrop (wApp 3 (wPopAt 2 (wCall W__law_draw [] (wCons (wSl 0) (wCons (wOf (wCB gLen (wCons (wSl 2) wNil))) wNil))))))
def W__law_mixed : WF1 := wDef 2 5
  (wSeq (wPar2 2 3 (wQc (wQf (wCBF fList (wCons (wSl 1) wNil))) (wQc (wQf (wLst wNil)) wQn)))
  (wSeq (wFor (wRg1 (wCons (wOf (wCB gLen (wCons (wSl 1) wNil))) wNil)) (gV 4)
  W__law_mixed_L1)
  (wRet (wCB gTuple (wCons (wSl 3) wNil)))))
def W__law_like_of (W__law_like : WF1) : WF1 := wDef 2 3
  (wSeq (wIf (wTru (wOf (wIsiT ["FooledRuns", "Keeping"] [.tuple] (wSl 1))))
  (wRet (wAndV (wIsiT ["FooledRuns", "Keeping"] [.tuple] (wSl 0)) (wAndV (wOp gEq (wOf (wCB gLen (wCons (wSl 0) wNil))) (wOf (wCB gLen (wCons (wSl 1) wNil)))) (wCB gAll (wCons (wOf (wFz (wLc (wRg1 (wCons (wOf (wCB gLen (wCons (wSl 1) wNil))) wNil)) (gV 2) wYes (wCall W__law_like [] (wCons (wOf (wOp gIx (wSl 0) (wSl 2))) (wCons (wOf (wOp gIx (wSl 1) (wSl 2))) wNil))) [2]))) wNil)))))
  wNext)
  (wSeq (wIf (wTst (wOp gIsN (wSl 1) (wOf (wC .non))))
  (wRet (wOp gIsN (wSl 0) (wOf (wC .non))))
  wNext)
  (wSeq (wIf (wTru (wOf (wIsiT ["FooledRuns", "Keeping"] [.bool] (wSl 1))))
  (wRet (wIfE (wTru (wSl 1)) (wOp gIsB (wSl 0) (wOf (wC (.bl true)))) (wOp gIsB (wSl 0) (wOf (wC (.bl false))))))
  wNext)
  (wSeq (wIf (wTru (wOf (wIsiT ["FooledRuns", "Keeping"] [.int] (wSl 1))))
  (wRet (wAndV (wIsiT ["FooledRuns", "Keeping"] [.int] (wSl 0)) (wAndV (wUn gNot (wIsiT ["FooledRuns", "Keeping"] [.bool] (wSl 0))) (wOp gEq (wSl 0) (wSl 1)))))
  wNext)
  (wRet (wAndV (wIsiT ["FooledRuns", "Keeping"] [.str] (wSl 0)) (wOp gEq (wSl 0) (wSl 1))))))))
def W__law_like_at : Nat → WF1
  | 0 => fun _ _ => False
  | n + 1 => W__law_like_of (W__law_like_at n)
abbrev W__law_like : WF1 := W__law_like_at 3
def W__law_rows_L1 : WS :=
  (wSeq (wSet (wCall W__law_draw [] (wCons (wSl 0) (wCons (wSl 1) wNil))) (gV 9))
  (wSet (wOp gAdd (wOf (wOp gAdd (wOf (wSl3 (wSl 7) wPN (wPS (wVar 9)))) (wOf (wTup (wCons (wOf (wCall W__law_draw [] (wCons (wSl 0) (wCons (wSl 2) wNil)))) wNil))))) (wOf (wSl3 (wSl 7) (wPS (wOp gAdd (wSl 9) (wOf (wC (.int 1))))) wPN))) (gV 7)))
def W__law_rows_L2 : WS :=
  (wSeq (wSet (wFz (wLc (wRg1 (wCons (wOf (wC (.int 2))) wNil)) (gV 10) wYes (wCall W__law_draw [] (wCons (wSl 0) (wCons (wSl 2) wNil))) [10])) (gV 6))
  (wSeq (wSet (wCB gTuple (wCons (wOf (wFz (wLc (wRg1 (wCons (wSl 1) wNil)) (gV 11) wYes (wCall W__law_draw [] (wCons (wSl 0) (wCons (wSl 2) wNil))) [11]))) wNil)) (gV 7))
  (wSeq (wIf (wTst (wOp gEq (wSl 3) (wOf (wC (.int 1)))))
  (wSet (wOp gMulQ (wOf (wTup (wCons (wOf (wOp gIx (wSl 6) (wOf (wC (.int 0))))) wNil))) (wSl 1)) (gV 7))
  wNext)
  (wSeq (wIf (wTst (wOp gEq (wSl 3) (wOf (wC (.int 2)))))
  (wSet (wCB gTuple (wCons (wOf (wFz (wLc (wRg1 (wCons (wSl 1) wNil)) (gV 11) wYes (wOp gMod (wOf (wCB gInt (wCons (wOf (wOp gAdd (wOf (wOp gIx (wSl 6) (wOf (wC (.int 0))))) (wOf (wOp gMul (wOf (wOp gIx (wSl 6) (wOf (wC (.int 1))))) (wOf (wOp gAdd (wSl 11) (wOf (wC (.int 1))))))))) wNil))) (wSl 2)) [11]))) wNil)) (gV 7))
  wNext)
  (wSeq (wIf (wAnd (wTst (wOp gEq (wSl 3) (wOf (wC (.int 3))))) (wTst (wTne 4)))
  (wSeq (wSet (wCall W__law_pick [] (wCons (wSl 0) (wCons (wOf (wFz (wTlist 4))) wNil))) (gV 7))
  (wFor (wRg1 (wCons (wOf (wOp gAdd (wOf (wC (.int 1))) (wOf (wCall W__law_draw [] (wCons (wSl 0) (wCons (wOf (wC (.int 4))) wNil)))))) wNil)) (gV 8)
  W__law_rows_L1))
  wNext)
  (wTput 4 (wC (.bl true)) (wVar 7)))))))
def W__law_rows : WF1 := wDef 2 12
  (wSeq (wParT [2, 3, 4] (wQc (wQv (wOp gAdd (wOf (wC (.int 2))) (wOf (wCall W__law_draw [] (wCons (wSl 0) (wCons (wOf (wCall W__law_pick [] (wCons (wSl 0) (wCons (wOf (wFz (wLst (wCons (wOf (wC (.int 1))) (wCons (wOf (wC (.int 3))) (wCons (wOf (wC (.int 11))) wNil)))))) wNil)))) wNil)))))) (wQc (wQv (wCall W__law_draw [] (wCons (wSl 0) (wCons (wOf (wC (.int 4))) wNil)))) (wQc wQt wQn))))
  (wSeq (wFor (wRg1 (wCons (wOf (wOp gAdd (wOf (wC (.int 1))) (wOf (wCall W__law_draw [] (wCons (wSl 0) (wCons (wOf (wC (.int 24))) wNil)))))) wNil)) (gV 5)
  W__law_rows_L2)
  (wRet (wTup (wCons (wOf (wVar 2)) (wCons (wOf (wCB gTuple (wCons (wOf (wCall W__law_mixed [] (wCons (wSl 0) (wCons (wOf (wFz (wTlist 4))) wNil)))) wNil))) wNil))))))
def W__law_least_L1 : WS :=
  (wSeq (wSet (wCB gLen (wCons (wOf (wFz (wLc (wIt (wSl 1)) (gV 6) (wTst (wOp gNe (wOf (wOp gIx (wOf (wOp gIx (wSl 0) (wSl 3))) (wSl 6))) (wOf (wOp gIx (wOf (wOp gIx (wSl 0) (wSl 4))) (wSl 6))))) (wVar 6) [6]))) wNil)) (gV 5))
  (wSet (wIfE (wOr (wTst (wOp gIsN (wSl 2) (wOf (wC .non)))) (wTst (wOp gLt (wSl 5) (wSl 2)))) (wVar 5) (wVar 2)) (gV 2)))
def W__law_least_L2 : WS :=
  (wFor (wRg2 (wCons (wOf (wOp gAdd (wSl 3) (wOf (wC (.int 1))))) (wCons (wOf (wCB gLen (wCons (wSl 0) wNil))) wNil))) (gV 4)
  W__law_least_L1)
def W__law_least : WF1 := wDef 2 7
  (wSeq (wSet (wC .non) (gV 2))
  (wSeq (wFor (wRg1 (wCons (wOf (wCB gLen (wCons (wSl 0) wNil))) wNil)) (gV 3)
  W__law_least_L2)
  (wRet (wVar 2))))
def W__law_is_lot : WF1 := wDef 2 3
  (wSeq (wIf (wOr (wNot (wTru (wOf (wIsiT ["FooledRuns", "Keeping"] [.tuple] (wSl 0))))) (wNot (wTru (wOf (wCB gAll (wCons (wOf (wFz (wLc (wIt (wSl 0)) (gV 2) wYes (wAndV (wIsiT ["FooledRuns", "Keeping"] [.int] (wSl 2)) (wAndV (wUn gNot (wIsiT ["FooledRuns", "Keeping"] [.bool] (wSl 2))) (wChain gLe gLt (wC (.int 0)) (wVar 2) (wVar 1)))) [2]))) wNil))))))
  (wRet (wC (.bl false)))
  wNext)
  (wRet (wOp gEq (wOf (wFz (wCBF fList (wCons (wSl 0) wNil)))) (wOf (wFz (wCBF fSortedP (wCons (wOf (wCB gSet (wCons (wSl 0) wNil))) wNil)))))))
def W__law_is_L1 : WS :=
  (wSeq (wSet (wOp gEq (wOf (wOp gIx (wSl 10) (wSl 14))) (wOf (wOp gIx (wOf (wOp gIx (wSl 1) (wSl 12))) (wOf (wOp gIx (wSl 2) (wSl 14)))))) (gV 15))
  (wIf (wAnd (wNot (wTru (wSl 15))) (wOr (wTst (wOp (gInP true) (wOf (wOp gIx (wSl 2) (wSl 14))) (wSl 13))) (wAnd (wTru (wSl 4)) (wTst (wOp gNotN (wOf (wOp gIx (wSl 10) (wSl 14))) (wOf (wC .non)))))))
  (wRet (wC (.bl false)))
  wNext))
def W__law_is_L2 : WS :=
  (wSeq (wIf (wOr (wNot (wTru (wOf (wIsiT ["FooledRuns", "Keeping"] [.int] (wSl 12))))) (wOr (wTru (wOf (wIsiT ["FooledRuns", "Keeping"] [.bool] (wSl 12)))) (wNot (wTst (wChain gLe gLt (wC (.int 0)) (wVar 12) (wCB gLen (wCons (wSl 1) wNil)))))))
  (wRet (wC (.bl false)))
  wNext)
  (wSeq (wIf (wOr (wNot (wTru (wOf (wCall W__law_is_lot [] (wCons (wSl 13) (wCons (wOf (wCB gLen (wCons (wOf (wOp gIx (wSl 1) (wOf (wC (.int 0))))) wNil))) wNil)))))) (wOr (wTst (wOp gGt (wOf (wCB gLen (wCons (wSl 13) wNil))) (wSl 3))) (wNot (wTru (wOf (wCB gAll (wCons (wOf (wFz (wLc (wIt (wSl 13)) (gV 16) wYes (wOp (gInP false) (wSl 16) (wSl 2)) [16]))) wNil)))))))
  (wRet (wC (.bl false)))
  wNext)
  (wFor (wRg1 (wCons (wOf (wCB gLen (wCons (wSl 2) wNil))) wNil)) (gV 14)
  W__law_is_L1)))
def W__law_is_L3 : WS :=
  (wIf (wAnd (wTst (wOp gNotN (wSl 11) (wOf (wC .non)))) (wOr (wNot (wTru (wOf (wIsiT ["FooledRuns", "Keeping"] [.int] (wSl 11))))) (wOr (wTru (wOf (wIsiT ["FooledRuns", "Keeping"] [.bool] (wSl 11)))) (wNot (wTst (wChain gLe gLt (wC (.int 0)) (wVar 11) (wVar 0)))))))
  (wRet (wC (.bl false)))
  wNext)
def W__law_is : WF1 := wDef 6 17
  (wSeq (wSet (wVar 5) (gTupV 5 (gConsV (gV 6) (gConsV (gV 7) (gConsV (gV 8) (gConsV (gV 9) (gConsV (gV 10) gNilV)))))))
  (wSeq (wIf (wOr (wNot (wTru (wOf (wIsiT ["FooledRuns", "Keeping"] [.tuple] (wSl 10))))) (wTst (wOp gNe (wOf (wCB gLen (wCons (wSl 10) wNil))) (wOf (wCB gLen (wCons (wSl 2) wNil))))))
  (wRet (wC (.bl false)))
  wNext)
  (wSeq (wFor (wIt (wSl 10)) (gV 11)
  W__law_is_L3)
  (wSeq (wFor (wIt (wOf (wTup (wCons (wOf (wTup (wCons (wOf (wVar 6)) (wCons (wOf (wVar 8)) wNil)))) (wCons (wOf (wTup (wCons (wOf (wVar 7)) (wCons (wOf (wVar 9)) wNil)))) wNil))))) (gTupV 2 (gConsV (gV 12) (gConsV (gV 13) gNilV)))
  W__law_is_L2)
  (wRet (wOp gNe (wSl 6) (wSl 7)))))))
def W__law_bent_L1 : WS :=
  (wDrop (wApp 13 (wTup (wCons (wOf (wVar 5)) (wCons (wOf (wVar 6)) (wCons (wOf (wVar 7)) (wCons (wOf (wVar 8)) (wCons (wOf (wOp gAdd (wOf (wOp gAdd (wOf (wSl3 (wSl 9) wPN (wPS (wVar 14)))) (wOf (wTup (wCons (wOf (wVar 15)) wNil))))) (wOf (wSl3 (wSl 9) (wPS (wOp gAdd (wSl 14) (wOf (wC (.int 1))))) wPN)))) wNil))))))))
def W__law_bent : WF1 := wDef 5 16
  (wSeq (wSet (wVar 4) (gTupV 5 (gConsV (gV 5) (gConsV (gV 6) (gConsV (gV 7) (gConsV (gV 8) (gConsV (gV 9) gNilV)))))))
  (wSeq (wPar3 10 11 12 (wQc (wQv (wCall W__law_draw [] (wCons (wSl 0) (wCons (wOf (wCB gLen (wCons (wSl 2) wNil))) wNil)))) (wQc (wQv (wCall W__law_draw [] (wCons (wSl 0) (wCons (wOf (wCB gLen (wCons (wOf (wOp gIx (wSl 2) (wOf (wC (.int 0))))) wNil))) wNil)))) (wQc (wQv (wCall W__law_draw [] (wCons (wSl 0) (wCons (wSl 1) wNil)))) wQn))))
  (wSeq (wSetF 13 (wLst (wCons (wOf (wTup (wCons (wOf (wVar 10)) (wCons (wOf (wVar 6)) (wCons (wOf (wVar 7)) (wCons (wOf (wVar 8)) (wCons (wOf (wVar 9)) wNil))))))) (wCons (wOf (wTup (wCons (wOf (wVar 5)) (wCons (wOf (wVar 10)) (wCons (wOf (wVar 7)) (wCons (wOf (wVar 8)) (wCons (wOf (wVar 9)) wNil))))))) (wCons (wOf (wTup (wCons (wOf (wVar 5)) (wCons (wOf (wVar 5)) (wCons (wOf (wVar 7)) (wCons (wOf (wVar 7)) (wCons (wOf (wVar 9)) wNil))))))) (wCons (wOf (wTup (wCons (wOf (wVar 6)) (wCons (wOf (wVar 5)) (wCons (wOf (wVar 8)) (wCons (wOf (wVar 7)) (wCons (wOf (wVar 9)) wNil))))))) wNil))))))
  (wSeq (wSetF 13 (wOpF fCat (wSl 13) (wOf (wFz (wLst (wCons (wOf (wTup (wCons (wOf (wVar 6)) (wCons (wOf (wVar 5)) (wCons (wOf (wVar 7)) (wCons (wOf (wVar 8)) (wCons (wOf (wVar 9)) wNil))))))) (wCons (wOf (wTup (wCons (wOf (wVar 5)) (wCons (wOf (wVar 6)) (wCons (wOf (wVar 8)) (wCons (wOf (wVar 7)) (wCons (wOf (wVar 9)) wNil))))))) (wCons (wOf (wTup (wCons (wOf (wVar 5)) (wCons (wOf (wVar 6)) (wCons (wOf (wSl3 (wSl 7) (wPS (wC (.int 1))) wPN)) (wCons (wOf (wVar 8)) (wCons (wOf (wVar 9)) wNil))))))) (wCons (wOf (wTup (wCons (wOf (wVar 5)) (wCons (wOf (wVar 6)) (wCons (wOf (wVar 7)) (wCons (wOf (wSl3 (wSl 8) wPN (wPS (wUn gNeg (wC (.int 1)))))) (wCons (wOf (wVar 9)) wNil))))))) wNil)))))))))
  (wSeq (wSetF 13 (wOpF fCat (wSl 13) (wOf (wFz (wLst (wCons (wOf (wTup (wCons (wOf (wVar 5)) (wCons (wOf (wVar 6)) (wCons (wOf (wCB gTuple (wCons (wOf (wFz (wCBF fSortedP (wCons (wOf (wCB gSet (wCons (wOf (wOp gAdd (wSl 7) (wOf (wTup (wCons (wOf (wVar 11)) wNil))))) wNil))) wNil)))) wNil))) (wCons (wOf (wVar 8)) (wCons (wOf (wVar 9)) wNil))))))) (wCons (wOf (wTup (wCons (wOf (wVar 5)) (wCons (wOf (wVar 6)) (wCons (wOf (wOp gAdd (wSl 7) (wOf (wTup (wCons (wOf (wVar 11)) wNil))))) (wCons (wOf (wVar 8)) (wCons (wOf (wVar 9)) wNil))))))) (wCons (wOf (wTup (wCons (wOf (wVar 5)) (wCons (wOf (wVar 6)) (wCons (wOf (wFz (wCBF fList (wCons (wSl 7) wNil)))) (wCons (wOf (wVar 8)) (wCons (wOf (wVar 9)) wNil))))))) wNil))))))))
  (wSeq (wSetF 13 (wOpF fCat (wSl 13) (wOf (wFz (wLst (wCons (wOf (wTup (wCons (wOf (wVar 5)) (wCons (wOf (wVar 6)) (wCons (wOf (wVar 7)) (wCons (wOf (wC .non)) (wCons (wOf (wVar 9)) wNil))))))) (wCons (wOf (wTup (wCons (wOf (wVar 5)) (wCons (wOf (wVar 6)) (wCons (wOf (wVar 7)) (wCons (wOf (wVar 8)) (wCons (wOf (wFz (wCBF fList (wCons (wSl 9) wNil)))) wNil))))))) (wCons (wOf (wTup (wCons (wOf (wVar 5)) (wCons (wOf (wVar 6)) (wCons (wOf (wVar 7)) (wCons (wOf (wVar 8)) (wCons (wOf (wC .non)) wNil))))))) (wCons (wOf (wTup (wCons (wOf (wOp gEq (wSl 5) (wOf (wC (.int 1))))) (wCons (wOf (wVar 6)) (wCons (wOf (wVar 7)) (wCons (wOf (wVar 8)) (wCons (wOf (wVar 9)) wNil))))))) wNil)))))))))
  (wSeq (wSetF 13 (wOpF fCat (wSl 13) (wOf (wFz (wLst (wCons (wOf (wTup (wCons (wOf (wVar 5)) (wCons (wOf (wCB gLen (wCons (wSl 2) wNil))) (wCons (wOf (wVar 7)) (wCons (wOf (wVar 8)) (wCons (wOf (wVar 9)) wNil))))))) (wCons (wOf (wTup (wCons (wOf (wVar 5)) (wCons (wOf (wOp gSub (wOf (wC (.int 0))) (wOf (wC (.int 1))))) (wCons (wOf (wVar 7)) (wCons (wOf (wVar 8)) (wCons (wOf (wVar 9)) wNil))))))) (wCons (wOf (wTup (wCons (wOf (wC .non)) (wCons (wOf (wVar 6)) (wCons (wOf (wVar 7)) (wCons (wOf (wVar 8)) (wCons (wOf (wVar 9)) wNil))))))) (wCons (wOf (wTup (wCons (wOf (wVar 5)) (wCons (wOf (wCB gStr (wCons (wSl 6) wNil))) (wCons (wOf (wVar 7)) (wCons (wOf (wVar 8)) (wCons (wOf (wVar 9)) wNil))))))) (wCons (wOf (wVar 4)) wNil))))))))))
  (wSeq (wIf (wTst (wOp gNe (wSl 9) (wOf (wTup wNil))))
  (wSeq (wSet (wCall W__law_draw [] (wCons (wSl 0) (wCons (wOf (wCB gLen (wCons (wSl 9) wNil))) wNil))) (gV 14))
  (wSeq (wFor (wIt (wOf (wFz (wLst (wCons (wOf (wVar 12)) (wCons (wOf (wC .non)) (wCons (wOf (wVar 1)) (wCons (wOf (wC (.str "0"))) (wCons (wOf (wC (.bl true))) (wCons (wOf (wOp gIx (wOf (wOp gIx (wSl 2) (wSl 5))) (wOf (wOp gIx (wSl 3) (wSl 14))))) (wCons (wOf (wOp gIx (wOf (wOp gIx (wSl 2) (wSl 6))) (wOf (wOp gIx (wSl 3) (wSl 14))))) (wCons (wOf (wOp gIx (wOf (wOp gIx (wSl 2) (wSl 10))) (wOf (wOp gIx (wSl 3) (wSl 14))))) wNil)))))))))))) (gV 15)
  W__law_bent_L1)
  (wSetF 13 (wOpF fCat (wSl 13) (wOf (wFz (wLst (wCons (wOf (wTup (wCons (wOf (wVar 5)) (wCons (wOf (wVar 6)) (wCons (wOf (wVar 7)) (wCons (wOf (wVar 8)) (wCons (wOf (wSl3 (wSl 9) (wPS (wC (.int 1))) wPN)) wNil))))))) (wCons (wOf (wTup (wCons (wOf (wVar 5)) (wCons (wOf (wVar 6)) (wCons (wOf (wVar 7)) (wCons (wOf (wVar 8)) (wCons (wOf (wOp gAdd (wSl 9) (wOf (wTup (wCons (wOf (wVar 12)) wNil))))) wNil))))))) wNil)))))))))
  wNext)
  (wRet (wCallP WP__law_pick (wCons (wSl 0) (wCons (wSl 13) wNil))))))))))))
def W__law_right_L1 : WS :=
  (wSeq (wSet (wMake "FooledRuns" W_FooledRuns_init [] (wCons (wOf (wOp gIx (wSl 16) (wOf (wC (.int 0))))) (wCons (wOf (wOp gIx (wSl 16) (wOf (wC (.int 1))))) (wCons (wOf (wOp gIx (wSl 16) (wOf (wC (.int 2))))) (wCons (wOf (wOp gIx (wSl 16) (wOf (wC (.int 3))))) (wCons (wOf (wOp gIx (wSl 16) (wOf (wC (.int 4))))) wNil)))))) (gV 18))
  (wIf (wNot (wTru (wOf (wCall W__law_like [] (wCons (wOf (wCall W_are_fooled_runs [] (wCons (wSl 4) (wCons (wSl 5) (wCons (wSl 17) (wCons (wSl 7) (wCons (wSl 18) wNil))))))) (wCons (wOf (wCall W__law_is [] (wCons (wSl 2) (wCons (wSl 3) (wCons (wSl 5) (wCons (wSl 17) (wCons (wSl 7) (wCons (wSl 16) wNil)))))))) wNil))))))
  (wRet (wC (.bl false)))
  wNext))
def W__law_right_L2 : WS :=
  (wSeq (wSet (wCall W__law_bent [] (wCons (wSl 0) (wCons (wSl 2) (wCons (wSl 3) (wCons (wSl 5) (wCons (wSl 13) wNil)))))) (gV 16))
  (wFor (wIt (wOf (wFz (wLst (wCons (wOf (wVar 9)) (wCons (wOf (wCB gMax (wCons (wOf (wC (.int 0))) (wCons (wOf (wOp gSub (wSl 9) (wOf (wC (.int 1))))) wNil)))) wNil)))))) (gV 17)
  W__law_right_L1))
def W__law_right : WF1 := wDef 2 20
  (wSeq (wSet (wCall W__law_rows [] (wCons (wSl 0) (wCons (wSl 1) wNil))) (gTupV 2 (gConsV (gV 2) (gConsV (gV 3) gNilV))))
  (wSeq (wPar2 4 5 (wQc (wQv (wMake "Keeping" W_Keeping_init [] (wCons (wOf (wVar 2)) (wCons (wOf (wVar 3)) wNil)))) (wQc (wQv (wCB gTuple (wCons (wOf (wFz (wLc (wRg1 (wCons (wSl 1) wNil)) (gV 19) (wTst (wOp gGt (wOf (wCall W__law_draw [] (wCons (wSl 0) (wCons (wOf (wC (.int 5))) wNil)))) (wOf (wC (.int 0))))) (wVar 19) [19]))) wNil))) wQn)))
  (wSeq (wPar2 6 7 (wQc (wQv (wCall W__law_least [] (wCons (wSl 3) (wCons (wSl 5) wNil)))) (wQc (wQv (wOp gEq (wOf (wCall W__law_draw [] (wCons (wSl 0) (wCons (wOf (wC (.int 2))) wNil)))) (wOf (wC (.int 0))))) wQn)))
  (wSeq (wSet (wIfE (wTst (wOp gNotN (wSl 6) (wOf (wC .non)))) (wVar 6) (wC (.int 1))) (gV 8))
  (wSeq (wSet (wCB gMax (wCons (wOf (wC (.int 0))) (wCons (wOf (wCall W__law_pick [] (wCons (wSl 0) (wCons (wOf (wFz (wLst (wCons (wOf (wVar 8)) (wCons (wOf (wOp gSub (wSl 8) (wOf (wC (.int 1))))) (wCons (wOf (wOp gDiv (wOf (wOp gAdd (wSl 8) (wOf (wC (.int 1))))) (wOf (wC (.int 2))))) (wCons (wOf (wOp gDiv (wSl 8) (wOf (wC (.int 2))))) (wCons (wOf (wOp gDiv (wOf (wOp gSub (wSl 8) (wOf (wC (.int 1))))) (wOf (wC (.int 2))))) (wCons (wOf (wCall W__law_draw [] (wCons (wSl 0) (wCons (wOf (wC (.int 5))) wNil)))) wNil))))))))) wNil)))) wNil))) (gV 9))
  (wSeq (wPar2 10 11 (wQc (wQv (wCall W_fooled_runs [] (wCons (wSl 4) (wCons (wSl 5) (wCons (wSl 9) (wCons (wSl 7) wNil)))))) (wQc (wQv (wAndV (wOp gNotN (wSl 6) (wOf (wC .non))) (wOp gLe (wSl 6) (wOf (wIfE (wTru (wSl 7)) (wVar 9) (wOp gMul (wOf (wC (.int 2))) (wSl 9))))))) wQn)))
  (wSeq (wIf (wNot (wTru (wOf (wCall W__law_like [] (wCons (wOf (wCall W_is_readable [] (wCons (wSl 4) (wCons (wSl 5) (wCons (wSl 9) (wCons (wSl 7) wNil)))))) (wCons (wOf (wUn gNot (wVar 11))) wNil))))))
  (wRet (wC (.bl false)))
  wNext)
  (wSeq (wIf (wNot (wTru (wSl 11)))
  (wSeq (wSet (wCall W__law_pick [] (wCons (wSl 0) (wCons (wOf (wFz (wLst (wCons (wOf (wC .non)) (wCons (wOf (wC (.int 0))) (wCons (wOf (wTup wNil)) (wCons (wOf (wVar 4)) (wCons (wOf (wMake "FooledRuns" W_FooledRuns_init [] (wCons (wOf (wC (.int 0))) (wCons (wOf (wC (.int 0))) (wCons (wOf (wTup wNil)) (wCons (wOf (wTup wNil)) (wCons (wOf (wCB gTuple (wCons (wOf (wFz (wLc (wIt (wSl 5)) (gV 19) wYes (wOp gIx (wOf (wOp gIx (wSl 3) (wOf (wC (.int 0))))) (wSl 19)) [19]))) wNil))) wNil))))))) wNil)))))))) wNil))) (gV 12))
  (wRet (wAndV (wOp gIsN (wSl 10) (wOf (wC .non))) (wOp gIsB (wOf (wCall W_are_fooled_runs [] (wCons (wSl 4) (wCons (wSl 5) (wCons (wSl 9) (wCons (wSl 7) (wCons (wSl 12) wNil))))))) (wOf (wC (.bl false)))))))
  wNext)
  (wSeq (wIf (wNot (wTru (wOf (wIsiO ["FooledRuns", "Keeping"] "FooledRuns" (wSl 10)))))
  (wRet (wC (.bl false)))
  wNext)
  (wSeq (wSet (wTup (wCons (wOf (wFld "one" (wVar 10))) (wCons (wOf (wFld "other" (wVar 10))) (wCons (wOf (wFld "liars" (wVar 10))) (wCons (wOf (wFld "others" (wVar 10))) (wCons (wOf (wFld "shown" (wVar 10))) wNil)))))) (gV 13))
  (wSeq (wIf (wOr (wNot (wTru (wOf (wCall W__law_is [] (wCons (wSl 2) (wCons (wSl 3) (wCons (wSl 5) (wCons (wSl 9) (wCons (wSl 7) (wCons (wSl 13) wNil)))))))))) (wTst (wOp gNotB (wOf (wCall W_are_fooled_runs [] (wCons (wSl 4) (wCons (wSl 5) (wCons (wSl 9) (wCons (wSl 7) (wCons (wSl 10) wNil))))))) (wOf (wC (.bl true))))))
  (wRet (wC (.bl false)))
  wNext)
  (wSeq (wSet (wCall W_readings [] (wCons (wSl 4) (wCons (wSl 5) (wCons (wOf (wFld "shown" (wVar 10))) (wCons (wSl 9) (wCons (wSl 7) wNil)))))) (gV 14))
  (wSeq (wIf (wOr (wNot (wTru (wOf (wIsiT ["FooledRuns", "Keeping"] [.tuple] (wSl 14))))) (wOr (wTst (wOp (gInP true) (wOf (wFld "one" (wVar 10))) (wSl 14))) (wOr (wTst (wOp (gInP true) (wOf (wFld "other" (wVar 10))) (wSl 14))) (wTst (wOp gNotN (wOf (wCall W_only_reading [] (wCons (wSl 4) (wCons (wSl 5) (wCons (wOf (wFld "shown" (wVar 10))) (wCons (wSl 9) (wCons (wSl 7) wNil))))))) (wOf (wC .non)))))))
  (wRet (wC (.bl false)))
  wNext)
  (wSeq (wFor (wRg1 (wCons (wOf (wC (.int 8))) wNil)) (gV 15)
  W__law_right_L2)
  (wSeq (wSet (wCall W__law_pick [] (wCons (wSl 0) (wCons (wOf (wFz (wLst (wCons (wOf (wC .non)) (wCons (wOf (wVar 13)) (wCons (wOf (wTup (wCons (wOf (wVar 10)) wNil))) (wCons (wOf (wC (.str "runs"))) (wCons (wOf (wC (.int 0))) (wCons (wOf (wMake "FooledRuns" W_FooledRuns_init [] (wCons (wOf (wC .non)) (wCons (wOf (wC .non)) (wCons (wOf (wC .non)) (wCons (wOf (wC .non)) (wCons (wOf (wC .non)) wNil))))))) wNil))))))))) wNil))) (gV 12))
  (wRet (wOp gIsB (wOf (wCallK W_are_fooled_runs [4, 3, 2, 1, 0] (wCons (wSl 12) (wCons (wSl 7) (wCons (wSl 9) (wCons (wSl 5) (wCons (wSl 4) wNil))))))) (wOf (wC (.bl false))))))))))))))))))))
def W__law_crowd_right_L1 : WS :=
  (wDrop (wApp 3 (wOp gAdd (wOf (wCB gTuple (wCons (wOf (wFz (wLc (wRg1 (wCons (wSl 2) wNil)) (gV 10) wYes (wCall W__law_draw [] (wCons (wSl 0) (wCons (wSl 1) wNil))) [10]))) wNil))) (wOf (wTup (wCons (wOf (wOp gMod (wOf (wCB gInt (wCons (wSl 5) wNil))) (wSl 1))) (wCons (wOf (wOp gMod (wOf (wCB gInt (wCons (wOf (wOp gDiv (wSl 5) (wSl 1))) wNil))) (wSl 1))) (wCons (wOf (wOp gMod (wOf (wCB gInt (wCons (wOf (wOp gDiv (wSl 5) (wOf (wOp gMul (wSl 1) (wSl 1))))) wNil))) (wSl 1))) wNil))))))))
def W__law_crowd_right : WF1 := wDef 1 11
  (wSeq (wParT [1, 2] (wQc (wQv (wOp gAdd (wOf (wC (.int 2))) (wOf (wCall W__law_draw [] (wCons (wSl 0) (wCons (wOf (wC (.int 3))) wNil)))))) (wQc (wQv (wOp gAdd (wOf (wC (.int 1))) (wOf (wCall W__law_draw [] (wCons (wSl 0) (wCons (wOf (wC (.int 2))) wNil)))))) wQn)))
  (wSeq (wPar2 3 4 (wQc (wQf (wLst wNil)) (wQc (wQv (wIfE (wTst (wOp gEq (wSl 2) (wOf (wC (.int 1))))) (wOp gPow (wSl 1) (wOf (wC (.int 1)))) (wOp gPow (wSl 1) (wOf (wC (.int 2)))))) wQn)))
  (wSeq (wFor (wRg1 (wCons (wOf (wOp gAdd (wSl 4) (wOf (wC (.int 1))))) wNil)) (gV 5)
  W__law_crowd_right_L1)
  (wSeq (wFrz 3 (wPar2 6 7 (wQc (wQv (wMake "Keeping" W_Keeping_init [] (wCons (wOf (wVar 1)) (wCons (wOf (wVar 3)) wNil)))) (wQc (wQv (wRgT1 (wVar 2))) wQn))))
  (wSeq (wSet (wCall W_crowded [] (wCons (wSl 6) (wCons (wSl 7) wNil))) (gV 8))
  (wSeq (wIf (wOr (wNot (wTru (wOf (wIsiT ["FooledRuns", "Keeping"] [.tuple] (wSl 8))))) (wOr (wTst (wOp gNe (wOf (wCB gLen (wCons (wSl 8) wNil))) (wOf (wC (.int 2))))) (wOr (wNot (wTst (wChain3 gLe gLt gLt (wC (.int 0)) (wOp gIx (wSl 8) (wOf (wC (.int 0)))) (wOp gIx (wSl 8) (wOf (wC (.int 1)))) (wCB gLen (wCons (wSl 3) wNil))))) (wTst (wOp gNe (wOf (wSl3 (wOf (wOp gIx (wSl 3) (wOf (wOp gIx (wSl 8) (wOf (wC (.int 0))))))) wPN (wPS (wVar 2)))) (wOf (wSl3 (wOf (wOp gIx (wSl 3) (wOf (wOp gIx (wSl 8) (wOf (wC (.int 1))))))) wPN (wPS (wVar 2)))))))))
  (wRet (wC (.bl false)))
  wNext)
  (wSeq (wSet (wCall W_fooled_runs [] (wCons (wSl 6) (wCons (wSl 7) (wCons (wOf (wC (.int 0))) (wCons (wOf (wOp gEq (wOf (wCall W__law_draw [] (wCons (wSl 0) (wCons (wOf (wC (.int 2))) wNil)))) (wOf (wC (.int 0))))) wNil))))) (gV 9))
  (wRet (wAndV (wIsiO ["FooledRuns", "Keeping"] "FooledRuns" (wSl 9)) (wAndV (wOp gEq (wOf (wFld "liars" (wVar 9))) (wOf (wTup wNil))) (wAndV (wOp gEq (wOf (wFld "others" (wVar 9))) (wOf (wTup wNil))) (wOp gEq (wOf (wSl3 (wOf (wOp gIx (wSl 3) (wOf (wFld "one" (wVar 9))))) wPN (wPS (wVar 2)))) (wOf (wSl3 (wOf (wOp gIx (wSl 3) (wOf (wFld "other" (wVar 9))))) wPN (wPS (wVar 2))))))))))))))))
def W_law_L1 : WS :=
  (wIf (wOr (wNot (wTru (wOf (wCall W__law_right [] (wCons (wSl 1) (wCons (wOf (wOp gAdd (wOf (wC (.int 1))) (wOf (wCall W__law_draw [] (wCons (wSl 1) (wCons (wOf (wCall W__law_pick [] (wCons (wSl 1) (wCons (wOf (wFz (wLst (wCons (wOf (wC (.int 4))) (wCons (wOf (wC (.int 8))) (wCons (wOf (wC (.int 12))) wNil)))))) wNil)))) wNil)))))) wNil)))))) (wNot (wTru (wOf (wCall W__law_crowd_right [] (wCons (wSl 1) wNil))))))
  (wRet (wC (.bl false)))
  wNext)
def W_law : WF1 := wDef 1 4
  (wSeq (wSet (wCall W__law_heap [] (wCons (wSl 0) wNil)) (gV 1))
  (wSeq (wFor (wRg1 (wCons (wOf (wC (.int 4))) wNil)) (gV 2)
  W_law_L1)
  (wSeq (wSet (wMake "Keeping" W_Keeping_init [] (wCons (wOf (wC (.int 2))) (wCons (wOf (wTup (wCons (wOf (wTup (wCons (wOf (wC (.int 0))) (wCons (wOf (wC (.int 0))) (wCons (wOf (wC (.int 0))) wNil))))) (wCons (wOf (wTup (wCons (wOf (wC (.int 1))) (wCons (wOf (wC (.int 1))) (wCons (wOf (wC (.int 1))) wNil))))) wNil)))) wNil))) (gV 3))
  (wRet (wAndV (wOp gIsN (wOf (wCall W_fooled_runs [] (wCons (wSl 3) (wCons (wOf (wTup (wCons (wOf (wC (.int 0))) (wCons (wOf (wC (.int 1))) (wCons (wOf (wC (.int 2))) wNil))))) (wCons (wOf (wC (.int 1))) (wCons (wOf (wC (.bl false))) wNil)))))) (wOf (wC .non))) (wIsiO ["FooledRuns", "Keeping"] "FooledRuns" (wOf (wCall W_fooled_runs [] (wCons (wSl 3) (wCons (wOf (wTup (wCons (wOf (wC (.int 0))) (wCons (wOf (wC (.int 1))) wNil)))) (wCons (wOf (wC (.int 1))) (wCons (wOf (wC (.bl false))) wNil))))))))))))
end K40

namespace K40
open PySem PySem.Spec PyProof.Rows L2 Hl Vl
def top (i : Nat) : Stmt := PySem.Challenge.pw_piecesapart_k40_whole_fooled_runs.main.body.getD i (.Pass ⟨0, 0, 0, 0⟩)
abbrev s_is_integer : Stmt := top 4
abbrev N_is_integer : List Str := ["value"]
theorem sc_is_integer : FnScope N_is_integer ["value"] (defScope s_is_integer) := ⟨rfl, rfl, rfl, by decide +kernel, rfl, by decide +kernel, by decide +kernel⟩
abbrev s_is_number : Stmt := top 5
abbrev N_is_number : List Str := ["value", "most"]
theorem sc_is_number : FnScope N_is_number ["value", "most"] (defScope s_is_number) := ⟨rfl, rfl, rfl, by decide +kernel, rfl, by decide +kernel, by decide +kernel⟩
abbrev s_is_sequence : Stmt := top 6
abbrev N_is_sequence : List Str := ["value"]
theorem sc_is_sequence : FnScope N_is_sequence ["value"] (defScope s_is_sequence) := ⟨rfl, rfl, rfl, by decide +kernel, rfl, by decide +kernel, by decide +kernel⟩
abbrev s_is_ascending : Stmt := top 7
abbrev N_is_ascending : List Str := ["row", "at"]
theorem sc_is_ascending : FnScope N_is_ascending ["row"] (defScope s_is_ascending) := ⟨rfl, rfl, rfl, by decide +kernel, rfl, by decide +kernel, by decide +kernel⟩
abbrev s_lot_of : Stmt := top 8
abbrev N_lot_of : List Str := ["value", "many", "one"]
theorem sc_lot_of : FnScope N_lot_of ["value", "many"] (defScope s_lot_of) := ⟨rfl, rfl, rfl, by decide +kernel, rfl, by decide +kernel, by decide +kernel⟩
abbrev s_is_state_row : Stmt := top 14
abbrev N_is_state_row : List Str := ["states", "rows", "row", "one"]
theorem sc_is_state_row : FnScope N_is_state_row ["states", "rows", "row"] (defScope s_is_state_row) := ⟨rfl, rfl, rfl, by decide +kernel, rfl, by decide +kernel, by decide +kernel⟩
abbrev s_Keeping_init : Stmt := inClass (top 13) 0
abbrev N_Keeping_init : List Str := ["self", "states", "rows", "known", "at", "row"]
theorem sc_Keeping_init : FnScope N_Keeping_init ["self", "states", "rows"] (defScope s_Keeping_init) := ⟨rfl, rfl, rfl, by decide +kernel, rfl, by decide +kernel, by decide +kernel⟩
abbrev s_unlike_at : Stmt := top 15
abbrev N_unlike_at : List Str := ["keeping", "one", "other", "houses", "first", "second", "x"]
theorem sc_unlike_at : FnScope N_unlike_at ["keeping", "one", "other", "houses"] (defScope s_unlike_at) := ⟨rfl, rfl, rfl, by decide +kernel, rfl, by decide +kernel, by decide +kernel⟩
abbrev s_twins : Stmt := top 16
abbrev N_twins : List Str := ["keeping", "houses", "best", "one", "other", "many"]
theorem sc_twins : FnScope N_twins ["keeping", "houses"] (defScope s_twins) := ⟨rfl, rfl, rfl, by decide +kernel, rfl, by decide +kernel, by decide +kernel⟩
abbrev s_least_unlike : Stmt := top 17
abbrev N_least_unlike : List Str := ["keeping", "houses", "pair"]
theorem sc_least_unlike : FnScope N_least_unlike ["keeping", "houses"] (defScope s_least_unlike) := ⟨rfl, rfl, rfl, by decide +kernel, rfl, by decide +kernel, by decide +kernel⟩
abbrev s_lies_needed : Stmt := top 18
abbrev N_lies_needed : List Str := ["f", "is_signed"]
theorem sc_lies_needed : FnScope N_lies_needed ["f", "is_signed"] (defScope s_lies_needed) := ⟨rfl, rfl, rfl, by decide +kernel, rfl, by decide +kernel, by decide +kernel⟩
abbrev s_is_readable : Stmt := top 19
abbrev N_is_readable : List Str := ["keeping", "houses", "f", "is_signed", "least"]
theorem sc_is_readable : FnScope N_is_readable ["keeping", "houses", "f", "is_signed"] (defScope s_is_readable) := ⟨rfl, rfl, rfl, by decide +kernel, rfl, by decide +kernel, by decide +kernel⟩
abbrev s_lies_in : Stmt := top 20
abbrev N_lies_in : List Str := ["keeping", "value", "houses", "shown", "is_signed", "row", "found", "x", "state"]
theorem sc_lies_in : FnScope N_lies_in ["keeping", "value", "houses", "shown", "is_signed"] (defScope s_lies_in) := ⟨rfl, rfl, rfl, by decide +kernel, rfl, by decide +kernel, by decide +kernel⟩
abbrev s_readings : Stmt := top 21
abbrev N_readings : List Str := ["keeping", "houses", "shown", "f", "is_signed", "found", "value", "lies"]
theorem sc_readings : FnScope N_readings ["keeping", "houses", "shown", "f", "is_signed"] (defScope s_readings) := ⟨rfl, rfl, rfl, by decide +kernel, rfl, by decide +kernel, by decide +kernel⟩
abbrev s_only_reading : Stmt := top 22
abbrev N_only_reading : List Str := ["keeping", "houses", "shown", "f", "is_signed", "found"]
theorem sc_only_reading : FnScope N_only_reading ["keeping", "houses", "shown", "f", "is_signed"] (defScope s_only_reading) := ⟨rfl, rfl, rfl, by decide +kernel, rfl, by decide +kernel, by decide +kernel⟩
abbrev s_crowded : Stmt := top 23
abbrev N_crowded : List Str := ["keeping", "houses", "known", "value", "row", "states", "x"]
theorem sc_crowded : FnScope N_crowded ["keeping", "houses"] (defScope s_crowded) := ⟨rfl, rfl, rfl, by decide +kernel, rfl, by decide +kernel, by decide +kernel⟩
abbrev s_FooledRuns_init : Stmt := inClass (top 25) 0
abbrev N_FooledRuns_init : List Str := ["self", "one", "other", "liars", "others", "shown"]
theorem sc_FooledRuns_init : FnScope N_FooledRuns_init ["self", "one", "other", "liars", "others", "shown"] (defScope s_FooledRuns_init) := ⟨rfl, rfl, rfl, by decide +kernel, rfl, by decide +kernel, by decide +kernel⟩
abbrev s_shown_alike : Stmt := top 26
abbrev N_shown_alike : List Str := ["keeping", "one", "other", "houses", "liars", "others", "is_signed", "found", "x"]
theorem sc_shown_alike : FnScope N_shown_alike ["keeping", "one", "other", "houses", "liars", "others", "is_signed"] (defScope s_shown_alike) := ⟨rfl, rfl, rfl, by decide +kernel, rfl, by decide +kernel, by decide +kernel⟩
abbrev s_fooled_runs : Stmt := top 27
abbrev N_fooled_runs : List Str := ["keeping", "houses", "f", "is_signed", "pair", "apart", "liars", "others", "shown"]
theorem sc_fooled_runs : FnScope N_fooled_runs ["keeping", "houses", "f", "is_signed"] (defScope s_fooled_runs) := ⟨rfl, rfl, rfl, by decide +kernel, rfl, by decide +kernel, by decide +kernel⟩
abbrev s_is_shown : Stmt := top 28
abbrev N_is_shown : List Str := ["keeping", "value", "houses", "liars", "shown", "is_signed", "x", "state", "due"]
theorem sc_is_shown : FnScope N_is_shown ["keeping", "value", "houses", "liars", "shown", "is_signed"] (defScope s_is_shown) := ⟨rfl, rfl, rfl, by decide +kernel, rfl, by decide +kernel, by decide +kernel⟩
abbrev s_are_states : Stmt := top 29
abbrev N_are_states : List Str := ["keeping", "houses", "value", "one"]
theorem sc_are_states : FnScope N_are_states ["keeping", "houses", "value"] (defScope s_are_states) := ⟨rfl, rfl, rfl, by decide +kernel, rfl, by decide +kernel, by decide +kernel⟩
abbrev s_are_fooled_runs : Stmt := top 30
abbrev N_are_fooled_runs : List Str := ["keeping", "houses", "f", "is_signed", "value", "worth", "lot", "one", "x"]
theorem sc_are_fooled_runs : FnScope N_are_fooled_runs ["keeping", "houses", "f", "is_signed", "value"] (defScope s_are_fooled_runs) := ⟨rfl, rfl, rfl, by decide +kernel, rfl, by decide +kernel, by decide +kernel⟩
abbrev s__law_heap : Stmt := top 32
abbrev N__law_heap : List Str := ["script", "cells", "stir", "cell"]
theorem sc__law_heap : FnScope N__law_heap ["script"] (defScope s__law_heap) := ⟨rfl, rfl, rfl, by decide +kernel, rfl, by decide +kernel, by decide +kernel⟩
abbrev s__law_draw : Stmt := top 33
abbrev N__law_draw : List Str := ["heap", "many", "rest"]
theorem sc__law_draw : FnScope N__law_draw ["heap", "many"] (defScope s__law_draw) := ⟨rfl, rfl, rfl, by decide +kernel, rfl, by decide +kernel, by decide +kernel⟩
abbrev s__law_pick : Stmt := top 34
abbrev N__law_pick : List Str := ["heap", "some"]
theorem sc__law_pick : FnScope N__law_pick ["heap", "some"] (defScope s__law_pick) := ⟨rfl, rfl, rfl, by decide +kernel, rfl, by decide +kernel, by decide +kernel⟩
abbrev s__law_mixed : Stmt := top 35
abbrev N__law_mixed : List Str := ["heap", "some", "left", "found", "turn"]
theorem sc__law_mixed : FnScope N__law_mixed ["heap", "some"] (defScope s__law_mixed) := ⟨rfl, rfl, rfl, by decide +kernel, rfl, by decide +kernel, by decide +kernel⟩
abbrev s__law_like : Stmt := top 36
abbrev N__law_like : List Str := ["told", "due", "at"]
theorem sc__law_like : FnScope N__law_like ["told", "due"] (defScope s__law_like) := ⟨rfl, rfl, rfl, by decide +kernel, rfl, by decide +kernel, by decide +kernel⟩
abbrev s__law_rows : Stmt := top 37
abbrev N__law_rows : List Str := ["heap", "houses", "states", "kind", "found", "turn", "seed", "row", "again", "at", "part", "house"]
theorem sc__law_rows : FnScope N__law_rows ["heap", "houses"] (defScope s__law_rows) := ⟨rfl, rfl, rfl, by decide +kernel, rfl, by decide +kernel, by decide +kernel⟩
abbrev s__law_least : Stmt := top 38
abbrev N__law_least : List Str := ["rows", "houses", "found", "one", "other", "many", "house"]
theorem sc__law_least : FnScope N__law_least ["rows", "houses"] (defScope s__law_least) := ⟨rfl, rfl, rfl, by decide +kernel, rfl, by decide +kernel, by decide +kernel⟩
abbrev s__law_is_lot : Stmt := top 39
abbrev N__law_is_lot : List Str := ["value", "most", "one"]
theorem sc__law_is_lot : FnScope N__law_is_lot ["value", "most"] (defScope s__law_is_lot) := ⟨rfl, rfl, rfl, by decide +kernel, rfl, by decide +kernel, by decide +kernel⟩
abbrev s__law_is : Stmt := top 40
abbrev N__law_is : List Str := ["states", "rows", "houses", "f", "is_signed", "parts", "one", "other", "liars", "others", "shown", "state", "value", "lot", "at", "right", "house"]
theorem sc__law_is : FnScope N__law_is ["states", "rows", "houses", "f", "is_signed", "parts"] (defScope s__law_is) := ⟨rfl, rfl, rfl, by decide +kernel, rfl, by decide +kernel, by decide +kernel⟩
abbrev s__law_bent : Stmt := top 41
abbrev N__law_bent : List Str := ["heap", "states", "rows", "houses", "parts", "one", "other", "liars", "others", "shown", "value", "house", "state", "some", "at", "new"]
theorem sc__law_bent : FnScope N__law_bent ["heap", "states", "rows", "houses", "parts"] (defScope s__law_bent) := ⟨rfl, rfl, rfl, by decide +kernel, rfl, by decide +kernel, by decide +kernel⟩
abbrev s__law_right : Stmt := top 42
abbrev N__law_right : List Str := ["heap", "houses", "states", "rows", "keeping", "lot", "least", "is_signed", "edge", "f", "told", "due", "odd", "parts", "both", "turn", "bent", "many", "value", "house"]
theorem sc__law_right : FnScope N__law_right ["heap", "houses"] (defScope s__law_right) := ⟨rfl, rfl, rfl, by decide +kernel, rfl, by decide +kernel, by decide +kernel⟩
abbrev s__law_crowd_right : Stmt := top 43
abbrev N__law_crowd_right : List Str := ["heap", "states", "few", "rows", "many", "value", "keeping", "lot", "pair", "told", "house"]
theorem sc__law_crowd_right : FnScope N__law_crowd_right ["heap"] (defScope s__law_crowd_right) := ⟨rfl, rfl, rfl, by decide +kernel, rfl, by decide +kernel, by decide +kernel⟩
abbrev s_law : Stmt := top 44
abbrev N_law : List Str := ["script", "heap", "turn", "keeping"]
theorem sc_law : FnScope N_law ["script"] (defScope s_law) := ⟨rfl, rfl, rfl, by decide +kernel, rfl, by decide +kernel, by decide +kernel⟩
structure Txt (K : PySem.W.Frag) (mg : Str → Option Value) where
  abs : mg "abs" = none
  all : mg "all" = none
  bool : mg "bool" = none
  enumerate : mg "enumerate" = none
  int : mg "int" = none
  isinstance : mg "isinstance" = none
  len : mg "len" = none
  list : mg "list" = none
  max : mg "max" = none
  range : mg "range" = none
  set : mg "set" = none
  sorted : mg "sorted" = none
  str : mg "str" = none
  tuple : mg "tuple" = none
  zip : mg "zip" = none
  t_MOST_KEEPERS : Tok
  c_MOST_KEEPERS : mg "MOST_KEEPERS" = some (.int 12 t_MOST_KEEPERS)
  t_MOST_STATES : Tok
  c_MOST_STATES : mg "MOST_STATES" = some (.int 12 t_MOST_STATES)
  t_MOST_VALUES : Tok
  c_MOST_VALUES : mg "MOST_VALUES" = some (.int 128 t_MOST_VALUES)
  C_FooledRuns : Addr
  fI_FooledRuns : Addr
  m_FooledRuns : mg "FooledRuns" = some (.ref C_FooledRuns)
  mk_FooledRuns : Mk K C_FooledRuns fI_FooledRuns
  cl_FooledRuns : Cls K C_FooledRuns
  n_FooledRuns_one : ∀ C, mg "FooledRuns" = some (.ref C) → NoAttr K C "one"
  n_FooledRuns_other : ∀ C, mg "FooledRuns" = some (.ref C) → NoAttr K C "other"
  n_FooledRuns_liars : ∀ C, mg "FooledRuns" = some (.ref C) → NoAttr K C "liars"
  n_FooledRuns_others : ∀ C, mg "FooledRuns" = some (.ref C) → NoAttr K C "others"
  n_FooledRuns_shown : ∀ C, mg "FooledRuns" = some (.ref C) → NoAttr K C "shown"
  C_Keeping : Addr
  fI_Keeping : Addr
  m_Keeping : mg "Keeping" = some (.ref C_Keeping)
  mk_Keeping : Mk K C_Keeping fI_Keeping
  cl_Keeping : Cls K C_Keeping
  n_Keeping_states : ∀ C, mg "Keeping" = some (.ref C) → NoAttr K C "states"
  n_Keeping_rows : ∀ C, mg "Keeping" = some (.ref C) → NoAttr K C "rows"
  known : ∀ c ∈ (["FooledRuns", "Keeping"] : List Str), ∀ C, mg c = some (.ref C) → IsiO K C
  kU : ∀ c ∈ (["FooledRuns", "Keeping"] : List Str), ∀ C, mg c = some (.ref C) → ∀ U : Tn, PySem.W.kitOne K (.ref C) (.type U.nm) = some false
  kB_FooledRuns : ∀ S ∈ bnames, PySem.W.kitOne K (.type S) (.ref C_FooledRuns) = some false
  kC_FooledRuns : ∀ c ∈ (["FooledRuns", "Keeping"] : List Str), ∀ C, mg c = some (.ref C) → PySem.W.kitOne K (.ref C) (.ref C_FooledRuns) = some (decide (c = "FooledRuns"))
  kB_Keeping : ∀ S ∈ bnames, PySem.W.kitOne K (.type S) (.ref C_Keeping) = some false
  kC_Keeping : ∀ c ∈ (["FooledRuns", "Keeping"] : List Str), ∀ C, mg c = some (.ref C) → PySem.W.kitOne K (.ref C) (.ref C_Keeping) = some (decide (c = "Keeping"))
section
variable {P : Program} {w : World} {K : PySem.W.Frag} {mg : Str → Option Value} {base : Heap}
theorem ok_is_integer {f : Addr} {fd : FuncData} (F : Fun K "is_integer" "is_integer" s_is_integer f fd) (T : Txt K mg) : FnOk P w K mg base CX0 1 f fd ["value"] (spV (gxOf K w mg) W_is_integer) := by
  refine F.ok sc_is_integer (fun vs H Q E h => spV_len (fun h => h.1) h) (fun cdv A outer s H vs Q E hr h => okV (N := N_is_integer) rfl
  (vb_one (vs_ret (ve_and (ve_isiB (cs := ["FooledRuns", "Keeping"]) (U := .int) rfl (vo_var (pv 0)) (pe_ty "int" (by rfl) T.int) (by rfl) T.isinstance T.known (fun c hc C hC => T.kU c hc C hC _)) (ve_one (ve_not (ve_isiB (cs := ["FooledRuns", "Keeping"]) (U := .bool) rfl (vo_var (pv 0)) (pe_ty "bool" (by rfl) T.bool) (by rfl) T.isinstance T.known (fun c hc C hC => T.kU c hc C hC _))))))) h)
theorem ok_is_number {f : Addr} {fd : FuncData} (F : FunD K "is_number" "is_number" (defArgs s_is_number) (defBody s_is_number) (defScope s_is_number) [.non] [] f fd) (T : Txt K mg) (D_is_integer : Df P w K mg base 1 "is_integer" ["value"] (spV (gxOf K w mg) W_is_integer)) : FnOk P w K mg base CX0 2 f fd ["value", "most"] (spV (gxOf K w mg) W_is_number) := by
  refine F.ok sc_is_number (fun vs H Q E h => spV_len (fun h => h.1) h) (fun cdv A outer s H vs Q E hr h => okV (N := N_is_number) rfl
  (vb_one (vs_ret (ve_and (ve_call D_is_integer.ok (hr.mono (by first | decide | omega)) (by rfl) D_is_integer.m D_is_integer.kp D_is_integer.b .nil (fun _ _ => .nil) pass0 (va_cons (vo_var (pv 0)) va_nil)) (ve_and (ve_cmp op_ge os_ge (vo_var (pv 0)) (vo_of (ve_int pe_int)) (nomark _)) (ve_one (ve_or (ve_cmp op_isN os_isN (vo_var (pv 1)) (vo_of (ve_non pe_non)) (nomark _)) (ve_one (ve_cmp op_le os_le (vo_var (pv 0)) (vo_var (pv 1)) (nomark _))))))))) h)
theorem ok_is_sequence {f : Addr} {fd : FuncData} (F : Fun K "is_sequence" "is_sequence" s_is_sequence f fd) (T : Txt K mg) : FnOk P w K mg base CX0 1 f fd ["value"] (spV (gxOf K w mg) W_is_sequence) := by
  refine F.ok sc_is_sequence (fun vs H Q E h => spV_len (fun h => h.1) h) (fun cdv A outer s H vs Q E hr h => okV (N := N_is_sequence) rfl
  (vb_one (vs_ret (ve_isiT (cs := ["FooledRuns", "Keeping"]) (Us := [.list, .tuple]) rfl (vo_var (pv 0)) (pa_cons (pe_ty "list" (by rfl) T.list) (pa_cons (pe_ty "tuple" (by rfl) T.tuple) pa_nil)) (by decide) (by rfl) T.isinstance T.known (fun c hc C hC U _ => T.kU c hc C hC U)))) h)
theorem ok_is_ascending {f : Addr} {fd : FuncData} (F : Fun K "is_ascending" "is_ascending" s_is_ascending f fd) (T : Txt K mg) : FnOk P w K mg base CX0 1 f fd ["row"] (spV (gxOf K w mg) W_is_ascending) := by
  refine F.ok sc_is_ascending (fun vs H Q E h => spV_len (fun h => h.1) h) (fun cdv A outer s H vs Q E hr h => okV (N := N_is_ascending) rfl
  (vb_one (vs_ret (ve_cb (kcr_all rfl rfl) cs_all (by rfl) T.all (by decide +kernel) (va_cons (vo_of (ve_fz (vf_lc (own := [("at", 1)]) rfl sc_is_ascending.nd (vi_rg2 (by rfl) T.range (va_cons (vo_of (ve_int pe_int)) (va_cons (vo_of (ve_cb (cr_lenP rfl) cs_len (by rfl) T.len (by decide +kernel) (va_cons (vo_var (pv 0)) va_nil))) va_nil))) (blkOk_by (own := [("at", 1)]) (N := N_is_ascending) (sc := defScope s_is_ascending) (by decide +kernel)) (fun _ _ _ _ _ => (vg_name (i := 1) sc_is_ascending.nd rfl (by first | exact Or.inl rfl | exact Or.inr rfl))) (fun _ _ _ _ _ => vts_nil) (fun _ _ _ _ _ => (ve_cmp op_lt os_lt (vo_of (ve_ix rfl (vo_var (pv 0)) (vo_of (ve_op op_sub os_sub (vo_var (pv 1)) (vo_of (ve_int pe_int)))) (fun _ _ => rfl))) (vo_of (ve_ix rfl (vo_var (pv 0)) (vo_var (pv 1)) (fun _ _ => rfl))) (nomark _)))))) va_nil)))) h)
theorem ok_lot_of {f : Addr} {fd : FuncData} (F : Fun K "lot_of" "lot_of" s_lot_of f fd) (T : Txt K mg) (D_is_ascending : Df P w K mg base 1 "is_ascending" ["row"] (spV (gxOf K w mg) W_is_ascending)) (D_is_sequence : Df P w K mg base 1 "is_sequence" ["value"] (spV (gxOf K w mg) W_is_sequence)) (D_is_number : Df P w K mg base 2 "is_number" ["value", "most"] (spV (gxOf K w mg) W_is_number)) : FnOk P w K mg base CX0 3 f fd ["value", "many"] (spV (gxOf K w mg) W_lot_of) := by
  refine F.ok sc_lot_of (fun vs H Q E h => spV_len (fun h => h.1) h) (fun cdv A outer s H vs Q E hr h => okV (N := N_lot_of) rfl
  (vb_cons (vs_if (VW.vt (vw_or (vt_not (vt_tru rfl (vo_of (ve_call D_is_sequence.ok (hr.mono (by first | decide | omega)) (by rfl) D_is_sequence.m D_is_sequence.kp D_is_sequence.b .nil (fun _ _ => .nil) pass0 (va_cons (vo_var (pv 0)) va_nil))))) (vw_or1 (vt_not (vt_tru rfl (vo_of (ve_cb (kcr_all rfl rfl) cs_all (by rfl) T.all (by decide +kernel) (va_cons (vo_of (ve_fz (vf_lc (own := [("one", 2)]) rfl sc_lot_of.nd (vi_seq rfl (vo_var (pv 0))) (blkOk_by (own := [("one", 2)]) (N := N_lot_of) (sc := defScope s_lot_of) (by decide +kernel)) (fun _ _ _ _ _ => (vg_name (i := 2) sc_lot_of.nd rfl (by first | exact Or.inl rfl | exact Or.inr rfl))) (fun _ _ _ _ _ => vts_nil) (fun _ _ _ _ _ => (ve_call D_is_number.ok (hr.mono (by first | decide | omega)) (by rfl) D_is_number.m D_is_number.kp D_is_number.b .nil (fun _ _ => .nil) pass0 (va_cons (vo_var (pv 2)) (va_cons (vo_of (ve_op op_sub os_sub (vo_var (pv 1)) (vo_of (ve_int pe_int)))) va_nil))))))) va_nil))))))))
  (vb_one (vs_ret (ve_non pe_non)))
  vb_nil)
  (vb_one (vs_ret (ve_ifE (vt_tru rfl (vo_of (ve_call D_is_ascending.ok (hr.mono (by first | decide | omega)) (by rfl) D_is_ascending.m D_is_ascending.kp D_is_ascending.b .nil (fun _ _ => .nil) pass0 (va_cons (vo_var (pv 0)) va_nil)))) (ve_ct (kcall_tuple_of rfl) cs_tuple (by rfl) T.tuple (by decide +kernel) (va_cons (vo_var (pv 0)) va_nil)) (ve_non pe_non))))) h)
theorem ok_is_state_row {f : Addr} {fd : FuncData} (F : Fun K "is_state_row" "is_state_row" s_is_state_row f fd) (T : Txt K mg) (D_is_sequence : Df P w K mg base 1 "is_sequence" ["value"] (spV (gxOf K w mg) W_is_sequence)) (D_is_number : Df P w K mg base 2 "is_number" ["value", "most"] (spV (gxOf K w mg) W_is_number)) : FnOk P w K mg base CX0 3 f fd ["states", "rows", "row"] (spV (gxOf K w mg) W_is_state_row) := by
  refine F.ok sc_is_state_row (fun vs H Q E h => spV_len (fun h => h.1) h) (fun cdv A outer s H vs Q E hr h => okV (N := N_is_state_row) rfl
  (vb_cons (vs_if (VW.vt (vw_or (vt_not (vt_tru rfl (vo_of (ve_call D_is_sequence.ok (hr.mono (by first | decide | omega)) (by rfl) D_is_sequence.m D_is_sequence.kp D_is_sequence.b .nil (fun _ _ => .nil) pass0 (va_cons (vo_var (pv 2)) va_nil))))) (vw_or (vt_not (vt_chain op_le op_le os_le os_le (ve_int pe_int) (ve_cb (cr_lenP rfl) cs_len (by rfl) T.len (by decide +kernel) (va_cons (vo_var (pv 2)) va_nil)) (ve_int (pe_glob (v := .int 12) (by rfl) T.c_MOST_KEEPERS ⟨_, rfl⟩)))) (vw_or1 (vt_cmp (kop_neD rfl hr.units) os_ne (vo_of (ve_cb (cr_lenP rfl) cs_len (by rfl) T.len (by decide +kernel) (va_cons (vo_var (pv 2)) va_nil))) (vo_of (ve_cb (cr_lenP rfl) cs_len (by rfl) T.len (by decide +kernel) (va_cons (vo_of (ve_ix rfl (vo_var (pv 1)) (vo_of (ve_int pe_int)) (fun _ _ => rfl))) va_nil))) (nomark _))))))
  (vb_one (vs_ret (ve_bl pe_bl)))
  vb_nil)
  (vb_one (vs_ret (ve_cb (kcr_all rfl rfl) cs_all (by rfl) T.all (by decide +kernel) (va_cons (vo_of (ve_fz (vf_lc (own := [("one", 3)]) rfl sc_is_state_row.nd (vi_seq rfl (vo_var (pv 2))) (blkOk_by (own := [("one", 3)]) (N := N_is_state_row) (sc := defScope s_is_state_row) (by decide +kernel)) (fun _ _ _ _ _ => (vg_name (i := 3) sc_is_state_row.nd rfl (by first | exact Or.inl rfl | exact Or.inr rfl))) (fun _ _ _ _ _ => vts_nil) (fun _ _ _ _ _ => (ve_call D_is_number.ok (hr.mono (by first | decide | omega)) (by rfl) D_is_number.m D_is_number.kp D_is_number.b .nil (fun _ _ => .nil) pass0 (va_cons (vo_var (pv 3)) (va_cons (vo_of (ve_op op_sub os_sub (vo_var (pv 0)) (vo_of (ve_int pe_int)))) va_nil))))))) va_nil))))) h)
theorem ok_Keeping_init {f : Addr} {fd : FuncData} (F : Fun K "__init__" "Keeping.__init__" s_Keeping_init f fd) (T : Txt K mg) (D_is_number : Df P w K mg base 2 "is_number" ["value", "most"] (spV (gxOf K w mg) W_is_number)) (D_is_sequence : Df P w K mg base 1 "is_sequence" ["value"] (spV (gxOf K w mg) W_is_sequence)) (D_is_state_row : Df P w K mg base 3 "is_state_row" ["states", "rows", "row"] (spV (gxOf K w mg) W_is_state_row)) : FnOk P w K mg base CX0 4 f fd ["self", "states", "rows"] (spN (gxOf K w mg) "Keeping" W_Keeping_init) := by
  refine F.ok sc_Keeping_init (fun vs H Q E h => spN_len (fun h => h.1) h) (fun cdv A outer s H vs Q E hr h => okN (N := N_Keeping_init) rfl
  (vb_cons (vs_if (VW.vt (vw_or (vt_not (vt_tru rfl (vo_of (ve_call D_is_number.ok (hr.mono (by first | decide | omega)) (by rfl) D_is_number.m D_is_number.kp D_is_number.b .nil (fun _ _ => .nil) pass0 (va_cons (vo_var (pv 1)) (va_cons (vo_of (ve_int (pe_glob (v := .int 12) (by rfl) T.c_MOST_STATES ⟨_, rfl⟩))) va_nil)))))) (vw_or1 (vt_cmp op_lt os_lt (vo_var (pv 1)) (vo_of (ve_int pe_int)) (nomark _)))))
  (vb_one vs_nev)
  vb_nil)
  (vb_cons (vs_if (VW.vt (vw_or (vt_not (vt_tru rfl (vo_of (ve_call D_is_sequence.ok (hr.mono (by first | decide | omega)) (by rfl) D_is_sequence.m D_is_sequence.kp D_is_sequence.b .nil (fun _ _ => .nil) pass0 (va_cons (vo_var (pv 2)) va_nil))))) (vw_or1 (vt_not (vt_chain op_le op_le os_le os_le (ve_int pe_int) (ve_cb (cr_lenP rfl) cs_len (by rfl) T.len (by decide +kernel) (va_cons (vo_var (pv 2)) va_nil)) (ve_int (pe_glob (v := .int 128) (by rfl) T.c_MOST_VALUES ⟨_, rfl⟩)))))))
  (vb_one vs_nev)
  vb_nil)
  (vb_cons (vs_setT (i := 3) sc_Keeping_init.nd rfl (by first | exact Or.inl rfl | exact Or.inr rfl))
  (vb_cons (vs_for PassesOwn.never rfl (vi_enum rfl (by rfl) T.enumerate (va_cons (vo_var (pv 2)) va_nil)) (vg_tup rfl rfl (vgs_cons (vg_name (i := 4) sc_Keeping_init.nd rfl (by first | exact Or.inl rfl | exact Or.inr rfl)) (vgs_cons (vg_name (i := 5) sc_Keeping_init.nd rfl (by first | exact Or.inl rfl | exact Or.inr rfl)) vgs_nil)))
  (vb_cons (vs_if (VW.vt (vw_or (vt_not (vt_tru rfl (vo_of (ve_call D_is_state_row.ok (hr.mono (by first | decide | omega)) (by rfl) D_is_state_row.m D_is_state_row.kp D_is_state_row.b .nil (fun _ _ => .nil) pass0 (va_cons (vo_var (pv 1)) (va_cons (vo_var (pv 2)) (va_cons (vo_var (pv 5)) va_nil))))))) (vw_or1 (vt_tin (hu_of hr) (ve_ct (kcall_tuple_of rfl) cs_tuple (by rfl) T.tuple (by decide +kernel) (va_cons (vo_var (pv 5)) va_nil)) (pv 3) (by rfl)))))
  (vb_one vs_nev)
  vb_nil)
  (vb_one (vs_tput (hu_of hr) (pv 3) (ve_ct (kcall_tuple_of rfl) cs_tuple (by rfl) T.tuple (by decide +kernel) (va_cons (vo_var (pv 5)) va_nil)) (ve_var (pv 4))))))
  (vb_cons (vs_fldS (c := "Keeping") rfl (T.n_Keeping_states) (pv 0) (ve_var (pv 1)) rfl)
  (vb_one (vs_fldS (c := "Keeping") rfl (T.n_Keeping_rows) (pv 0) (ve_ct (kcall_tuple_of rfl) cs_tuple (by rfl) T.tuple (by decide +kernel) (va_cons (vo_of (ve_fz (vf_lc (own := [("row", 5)]) rfl sc_Keeping_init.nd (vi_seq rfl (vo_var (pv 2))) (blkOk_by (own := [("row", 5)]) (N := N_Keeping_init) (sc := defScope s_Keeping_init) (by decide +kernel)) (fun _ _ _ _ _ => (vg_name (i := 5) sc_Keeping_init.nd rfl (by first | exact Or.inl rfl | exact Or.inr rfl))) (fun _ _ _ _ _ => vts_nil) (fun _ _ _ _ _ => (ve_ct (kcall_tuple_of rfl) cs_tuple (by rfl) T.tuple (by decide +kernel) (va_cons (vo_var (pv 5)) va_nil)))))) va_nil)) rfl))))))) h)
theorem ok_unlike_at {f : Addr} {fd : FuncData} (F : Fun K "unlike_at" "unlike_at" s_unlike_at f fd) (T : Txt K mg) : FnOk P w K mg base CX0 1 f fd ["keeping", "one", "other", "houses"] (spV (gxOf K w mg) W_unlike_at) := by
  refine F.ok sc_unlike_at (fun vs H Q E h => spV_len (fun h => h.1) h) (fun cdv A outer s H vs Q E hr h => okV (N := N_unlike_at) rfl
  (vb_cons (vs_parT (is := [4, 5]) (vqs_cons (vq_v (ve_ix rfl (vo_of (ve_fld rfl (ve_var (pv 0)) rfl)) (vo_var (pv 1)) (fun _ _ => rfl))) (vqs_cons (vq_v (ve_ix rfl (vo_of (ve_fld rfl (ve_var (pv 0)) rfl)) (vo_var (pv 2)) (fun _ _ => rfl))) vqs_nil)) (kpg_tup (K := K) (n := 2) rfl rfl (pgs_cons (pg_name (i := 4) sc_unlike_at.nd rfl (by first | exact Or.inl rfl | exact Or.inr rfl)) (pgs_cons (pg_name (i := 5) sc_unlike_at.nd rfl (by first | exact Or.inl rfl | exact Or.inr rfl)) pgs_nil))))
  (vb_one (vs_ret (ve_ct (kcall_tuple_of rfl) cs_tuple (by rfl) T.tuple (by decide +kernel) (va_cons (vo_of (ve_fz (vf_lc (own := [("x", 6)]) rfl sc_unlike_at.nd (vi_seq rfl (vo_var (pv 3))) (blkOk_by (own := [("x", 6)]) (N := N_unlike_at) (sc := defScope s_unlike_at) (by decide +kernel)) (fun _ _ _ _ _ => (vg_name (i := 6) sc_unlike_at.nd rfl (by first | exact Or.inl rfl | exact Or.inr rfl))) (fun _ _ _ _ _ => (vts_one (vt_cmp (kop_neD rfl hr.units) os_ne (vo_of (ve_ix rfl (vo_var (pv 4)) (vo_var (pv 6)) (fun _ _ => rfl))) (vo_of (ve_ix rfl (vo_var (pv 5)) (vo_var (pv 6)) (fun _ _ => rfl))) (nomark _)))) (fun _ _ _ _ _ => (ve_var (pv 6)))))) va_nil))))) h)
theorem ok_twins {f : Addr} {fd : FuncData} (F : Fun K "twins" "twins" s_twins f fd) (T : Txt K mg) (D_unlike_at : Df P w K mg base 1 "unlike_at" ["keeping", "one", "other", "houses"] (spV (gxOf K w mg) W_unlike_at)) : FnOk P w K mg base CX0 2 f fd ["keeping", "houses"] (spV (gxOf K w mg) W_twins) := by
  refine F.ok sc_twins (fun vs H Q E h => spV_len (fun h => h.1) h) (fun cdv A outer s H vs Q E hr h => okV (N := N_twins) rfl
  (vb_cons (vs_set (i := 2) sc_twins.nd rfl (by first | exact Or.inl rfl | exact Or.inr rfl) (ve_non pe_non))
  (vb_cons (vs_for PassesOwn.never rfl (vi_rg1 (by rfl) T.range (va_cons (vo_of (ve_cb (cr_lenP rfl) cs_len (by rfl) T.len (by decide +kernel) (va_cons (vo_of (ve_fld rfl (ve_var (pv 0)) rfl)) va_nil))) va_nil)) (vg_name (i := 3) sc_twins.nd rfl (by first | exact Or.inl rfl | exact Or.inr rfl))
  (vb_one (vs_for PassesOwn.never rfl (vi_rg2 (by rfl) T.range (va_cons (vo_of (ve_op (op_addP rfl) os_add (vo_var (pv 3)) (vo_of (ve_int pe_int)))) (va_cons (vo_of (ve_cb (cr_lenP rfl) cs_len (by rfl) T.len (by decide +kernel) (va_cons (vo_of (ve_fld rfl (ve_var (pv 0)) rfl)) va_nil))) va_nil))) (vg_name (i := 4) sc_twins.nd rfl (by first | exact Or.inl rfl | exact Or.inr rfl))
  (vb_cons (vs_set (i := 5) sc_twins.nd rfl (by first | exact Or.inl rfl | exact Or.inr rfl) (ve_cb (cr_lenP rfl) cs_len (by rfl) T.len (by decide +kernel) (va_cons (vo_of (ve_call D_unlike_at.ok (hr.mono (by first | decide | omega)) (by rfl) D_unlike_at.m D_unlike_at.kp D_unlike_at.b .nil (fun _ _ => .nil) pass0 (va_cons (vo_var (pv 0)) (va_cons (vo_var (pv 3)) (va_cons (vo_var (pv 4)) (va_cons (vo_var (pv 1)) va_nil)))))) va_nil)))
  (vb_one (vs_if (VW.vt (vw_or (vt_cmp op_isN os_isN (vo_var (pv 2)) (vo_of (ve_non pe_non)) (nomark _)) (vw_or1 (vt_cmp op_lt os_lt (vo_var (pv 5)) (vo_of (ve_ix rfl (vo_var (pv 2)) (vo_of (ve_int pe_int)) (fun _ _ => rfl))) (nomark _)))))
  (vb_one (vs_set (i := 2) sc_twins.nd rfl (by first | exact Or.inl rfl | exact Or.inr rfl) (ve_tup (va_cons (vo_of (ve_var (pv 5))) (va_cons (vo_of (ve_var (pv 3))) (va_cons (vo_of (ve_var (pv 4))) va_nil))))))
  vb_nil))))))
  (vb_one (vs_ret (ve_ifE (vt_cmp op_isN os_isN (vo_var (pv 2)) (vo_of (ve_non pe_non)) (nomark _)) (ve_non pe_non) (ve_sl rfl (vo_var (pv 2)) (vp_some (ve_int pe_int)) vp_none)))))) h)
theorem ok_least_unlike {f : Addr} {fd : FuncData} (F : Fun K "least_unlike" "least_unlike" s_least_unlike f fd) (T : Txt K mg) (D_twins : Df P w K mg base 2 "twins" ["keeping", "houses"] (spV (gxOf K w mg) W_twins)) (D_unlike_at : Df P w K mg base 1 "unlike_at" ["keeping", "one", "other", "houses"] (spV (gxOf K w mg) W_unlike_at)) : FnOk P w K mg base CX0 3 f fd ["keeping", "houses"] (spV (gxOf K w mg) W_least_unlike) := by
  refine F.ok sc_least_unlike (fun vs H Q E h => spV_len (fun h => h.1) h) (fun cdv A outer s H vs Q E hr h => okV (N := N_least_unlike) rfl
  (vb_cons (vs_set (i := 2) sc_least_unlike.nd rfl (by first | exact Or.inl rfl | exact Or.inr rfl) (ve_call D_twins.ok (hr.mono (by first | decide | omega)) (by rfl) D_twins.m D_twins.kp D_twins.b .nil (fun _ _ => .nil) pass0 (va_cons (vo_var (pv 0)) (va_cons (vo_var (pv 1)) va_nil))))
  (vb_one (vs_ret (ve_ifE (vt_cmp op_isN os_isN (vo_var (pv 2)) (vo_of (ve_non pe_non)) (nomark _)) (ve_non pe_non) (ve_cb (cr_lenP rfl) cs_len (by rfl) T.len (by decide +kernel) (va_cons (vo_of (ve_call D_unlike_at.ok (hr.mono (by first | decide | omega)) (by rfl) D_unlike_at.m D_unlike_at.kp D_unlike_at.b .nil (fun _ _ => .nil) pass0 (va_cons (vo_var (pv 0)) (va_cons (vo_of (ve_ix rfl (vo_var (pv 2)) (vo_of (ve_int pe_int)) (fun _ _ => rfl))) (va_cons (vo_of (ve_ix rfl (vo_var (pv 2)) (vo_of (ve_int pe_int)) (fun _ _ => rfl))) (va_cons (vo_var (pv 1)) va_nil)))))) va_nil)))))) h)
theorem ok_lies_needed {f : Addr} {fd : FuncData} (F : Fun K "lies_needed" "lies_needed" s_lies_needed f fd) (T : Txt K mg) : FnOk P w K mg base CX0 1 f fd ["f", "is_signed"] (spV (gxOf K w mg) W_lies_needed) := by
  refine F.ok sc_lies_needed (fun vs H Q E h => spV_len (fun h => h.1) h) (fun cdv A outer s H vs Q E hr h => okV (N := N_lies_needed) rfl
  (vb_one (vs_ret (ve_ifE (vt_tru rfl (vo_var (pv 1))) (ve_var (pv 0)) (ve_op (op_mulP rfl) os_mul (vo_of (ve_int pe_int)) (vo_var (pv 0)))))) h)
theorem ok_is_readable {f : Addr} {fd : FuncData} (F : Fun K "is_readable" "is_readable" s_is_readable f fd) (T : Txt K mg) (D_least_unlike : Df P w K mg base 3 "least_unlike" ["keeping", "houses"] (spV (gxOf K w mg) W_least_unlike)) (D_lies_needed : Df P w K mg base 1 "lies_needed" ["f", "is_signed"] (spV (gxOf K w mg) W_lies_needed)) : FnOk P w K mg base CX0 4 f fd ["keeping", "houses", "f", "is_signed"] (spV (gxOf K w mg) W_is_readable) := by
  refine F.ok sc_is_readable (fun vs H Q E h => spV_len (fun h => h.1) h) (fun cdv A outer s H vs Q E hr h => okV (N := N_is_readable) rfl
  (vb_cons (vs_set (i := 4) sc_is_readable.nd rfl (by first | exact Or.inl rfl | exact Or.inr rfl) (ve_call D_least_unlike.ok (hr.mono (by first | decide | omega)) (by rfl) D_least_unlike.m D_least_unlike.kp D_least_unlike.b .nil (fun _ _ => .nil) pass0 (va_cons (vo_var (pv 0)) (va_cons (vo_var (pv 1)) va_nil))))
  (vb_one (vs_ret (ve_or (ve_cmp op_isN os_isN (vo_var (pv 4)) (vo_of (ve_non pe_non)) (nomark _)) (ve_one (ve_cmp op_gt os_gt (vo_var (pv 4)) (vo_of (ve_call D_lies_needed.ok (hr.mono (by first | decide | omega)) (by rfl) D_lies_needed.m D_lies_needed.kp D_lies_needed.b .nil (fun _ _ => .nil) pass0 (va_cons (vo_var (pv 2)) (va_cons (vo_var (pv 3)) va_nil)))) (nomark _))))))) h)
theorem ok_lies_in {f : Addr} {fd : FuncData} (F : Fun K "lies_in" "lies_in" s_lies_in f fd) (T : Txt K mg) : FnOk P w K mg base CX0 1 f fd ["keeping", "value", "houses", "shown", "is_signed"] (spV (gxOf K w mg) W_lies_in) := by
  refine F.ok sc_lies_in (fun vs H Q E h => spV_len (fun h => h.1) h) (fun cdv A outer s H vs Q E hr h => okV (N := N_lies_in) rfl
  (vb_cons (vs_par2 (i := 5) (j := 6) rfl sc_lies_in.nd rfl rfl  (by decide)  rfl rfl  (vqs_cons (vq_v (ve_ix rfl (vo_of (ve_fld rfl (ve_var (pv 0)) rfl)) (vo_var (pv 1)) (fun _ _ => rfl))) (vqs_cons (vq_v (ve_int pe_int)) vqs_nil)) (by rfl))
  (vb_cons (vs_for PassesOwn.never rfl (vi_zip rfl (by rfl) T.zip (va_cons (vo_var (pv 2)) (va_cons (vo_var (pv 3)) va_nil))) (vg_tup rfl rfl (vgs_cons (vg_name (i := 7) sc_lies_in.nd rfl (by first | exact Or.inl rfl | exact Or.inr rfl)) (vgs_cons (vg_name (i := 8) sc_lies_in.nd rfl (by first | exact Or.inl rfl | exact Or.inr rfl)) vgs_nil)))
  (vb_one (vs_if (VW.vt (vw_or (vt_cmp op_isN os_isN (vo_var (pv 8)) (vo_of (ve_non pe_non)) (nomark _)) (vw_or1 (VW.vt (vw_and (vt_cmp (kop_neD rfl hr.units) os_ne (vo_var (pv 8)) (vo_of (ve_ix rfl (vo_var (pv 5)) (vo_var (pv 7)) (fun _ _ => rfl))) (nomark _)) (vw_and1 (vt_not (vt_tru rfl (vo_var (pv 4))))))))))
  (vb_one (vs_augE (i := 6) sc_lies_in.nd rfl (by first | exact Or.inl rfl | exact Or.inr rfl) (ve_int pe_int) ip_add))
  (vb_one (vs_if (vt_cmp (kop_neD rfl hr.units) os_ne (vo_var (pv 8)) (vo_of (ve_ix rfl (vo_var (pv 5)) (vo_var (pv 7)) (fun _ _ => rfl))) (nomark _))
  (vb_one (vs_ret (ve_non pe_non)))
  vb_nil)))))
  (vb_one (vs_ret (ve_var (pv 6)))))) h)
theorem ok_readings {f : Addr} {fd : FuncData} (F : Fun K "readings" "readings" s_readings f fd) (T : Txt K mg) (D_lies_in : Df P w K mg base 1 "lies_in" ["keeping", "value", "houses", "shown", "is_signed"] (spV (gxOf K w mg) W_lies_in)) : FnOk P w K mg base CX0 2 f fd ["keeping", "houses", "shown", "f", "is_signed"] (spV (gxOf K w mg) W_readings) := by
  refine F.ok sc_readings (fun vs H Q E h => spV_len (fun h => h.1) h) (fun cdv A outer s H vs Q E hr h => okV (N := N_readings) rfl
  (vb_cons (vs_setF (i := 5) sc_readings.nd rfl (by first | exact Or.inl rfl | exact Or.inr rfl) (vf_lst va_nil))
  (vb_cons (vs_for PassesOwn.never rfl (vi_rg1 (by rfl) T.range (va_cons (vo_of (ve_cb (cr_lenP rfl) cs_len (by rfl) T.len (by decide +kernel) (va_cons (vo_of (ve_fld rfl (ve_var (pv 0)) rfl)) va_nil))) va_nil)) (vg_name (i := 6) sc_readings.nd rfl (by first | exact Or.inl rfl | exact Or.inr rfl))
  (vb_cons (vs_set (i := 7) sc_readings.nd rfl (by first | exact Or.inl rfl | exact Or.inr rfl) (ve_call D_lies_in.ok (hr.mono (by first | decide | omega)) (by rfl) D_lies_in.m D_lies_in.kp D_lies_in.b .nil (fun _ _ => .nil) pass0 (va_cons (vo_var (pv 0)) (va_cons (vo_var (pv 6)) (va_cons (vo_var (pv 1)) (va_cons (vo_var (pv 2)) (va_cons (vo_var (pv 4)) va_nil)))))))
  (vb_one (vs_if (VW.vt (vw_and (vt_cmp op_notN os_notN (vo_var (pv 7)) (vo_of (ve_non pe_non)) (nomark _)) (vw_and1 (vt_cmp op_le os_le (vo_var (pv 7)) (vo_var (pv 3)) (nomark _)))))
  (vb_one (vs_expr (ve_app rfl (pv 5) (ve_var (pv 6)))))
  vb_nil))))
  (vb_one (vs_ret (ve_ct (kcall_tuple_of rfl) cs_tuple (by rfl) T.tuple (by decide +kernel) (va_cons (vo_var (pv 5)) va_nil)))))) h)
theorem ok_only_reading {f : Addr} {fd : FuncData} (F : Fun K "only_reading" "only_reading" s_only_reading f fd) (T : Txt K mg) (D_readings : Df P w K mg base 2 "readings" ["keeping", "houses", "shown", "f", "is_signed"] (spV (gxOf K w mg) W_readings)) : FnOk P w K mg base CX0 3 f fd ["keeping", "houses", "shown", "f", "is_signed"] (spV (gxOf K w mg) W_only_reading) := by
  refine F.ok sc_only_reading (fun vs H Q E h => spV_len (fun h => h.1) h) (fun cdv A outer s H vs Q E hr h => okV (N := N_only_reading) rfl
  (vb_cons (vs_set (i := 5) sc_only_reading.nd rfl (by first | exact Or.inl rfl | exact Or.inr rfl) (ve_call D_readings.ok (hr.mono (by first | decide | omega)) (by rfl) D_readings.m D_readings.kp D_readings.b .nil (fun _ _ => .nil) pass0 (va_cons (vo_var (pv 0)) (va_cons (vo_var (pv 1)) (va_cons (vo_var (pv 2)) (va_cons (vo_var (pv 3)) (va_cons (vo_var (pv 4)) va_nil)))))))
  (vb_one (vs_ret (ve_ifE (vt_cmp (kop_eqD rfl hr.units) os_eq (vo_of (ve_cb (cr_lenP rfl) cs_len (by rfl) T.len (by decide +kernel) (va_cons (vo_var (pv 5)) va_nil))) (vo_of (ve_int pe_int)) (nomark _)) (ve_ix rfl (vo_var (pv 5)) (vo_of (ve_int pe_int)) (fun _ _ => rfl)) (ve_non pe_non))))) h)
theorem ok_crowded {f : Addr} {fd : FuncData} (F : Fun K "crowded" "crowded" s_crowded f fd) (T : Txt K mg) : FnOk P w K mg base CX0 1 f fd ["keeping", "houses"] (spV (gxOf K w mg) W_crowded) := by
  refine F.ok sc_crowded (fun vs H Q E h => spV_len (fun h => h.1) h) (fun cdv A outer s H vs Q E hr h => okV (N := N_crowded) rfl
  (vb_cons (vs_setT (i := 2) sc_crowded.nd rfl (by first | exact Or.inl rfl | exact Or.inr rfl))
  (vb_cons (vs_for PassesOwn.never rfl (vi_enum rfl (by rfl) T.enumerate (va_cons (vo_of (ve_fld rfl (ve_var (pv 0)) rfl)) va_nil)) (vg_tup rfl rfl (vgs_cons (vg_name (i := 3) sc_crowded.nd rfl (by first | exact Or.inl rfl | exact Or.inr rfl)) (vgs_cons (vg_name (i := 4) sc_crowded.nd rfl (by first | exact Or.inl rfl | exact Or.inr rfl)) vgs_nil)))
  (vb_cons (vs_set (i := 5) sc_crowded.nd rfl (by first | exact Or.inl rfl | exact Or.inr rfl) (ve_ct (kcall_tuple_of rfl) cs_tuple (by rfl) T.tuple (by decide +kernel) (va_cons (vo_of (ve_fz (vf_lc (own := [("x", 6)]) rfl sc_crowded.nd (vi_seq rfl (vo_var (pv 1))) (blkOk_by (own := [("x", 6)]) (N := N_crowded) (sc := defScope s_crowded) (by decide +kernel)) (fun _ _ _ _ _ => (vg_name (i := 6) sc_crowded.nd rfl (by first | exact Or.inl rfl | exact Or.inr rfl))) (fun _ _ _ _ _ => vts_nil) (fun _ _ _ _ _ => (ve_ix rfl (vo_var (pv 4)) (vo_var (pv 6)) (fun _ _ => rfl)))))) va_nil)))
  (vb_cons (vs_if (vt_tin (hu_of hr) (ve_var (pv 5)) (pv 2) (by rfl))
  (vb_one (vs_ret (ve_tup (va_cons (vo_of (ve_tget (hu_of hr) (pv 2) (ve_var (pv 5)) (fun _ _ => rfl))) (va_cons (vo_of (ve_var (pv 3))) va_nil)))))
  vb_nil)
  (vb_one (vs_tput (hu_of hr) (pv 2) (ve_var (pv 5)) (ve_var (pv 3)))))))
  (vb_one (vs_ret (ve_non pe_non))))) h)
theorem ok_FooledRuns_init {f : Addr} {fd : FuncData} (F : Fun K "__init__" "FooledRuns.__init__" s_FooledRuns_init f fd) (T : Txt K mg) : FnOk P w K mg base CX0 1 f fd ["self", "one", "other", "liars", "others", "shown"] (spN (gxOf K w mg) "FooledRuns" W_FooledRuns_init) := by
  refine F.ok sc_FooledRuns_init (fun vs H Q E h => spN_len (fun h => h.1) h) (fun cdv A outer s H vs Q E hr h => okN (N := N_FooledRuns_init) rfl
  (vb_cons (vs_fldS (c := "FooledRuns") rfl (T.n_FooledRuns_one) (pv 0) (ve_var (pv 1)) rfl)
  (vb_cons (vs_fldS (c := "FooledRuns") rfl (T.n_FooledRuns_other) (pv 0) (ve_var (pv 2)) rfl)
  (vb_cons (vs_fldS (c := "FooledRuns") rfl (T.n_FooledRuns_liars) (pv 0) (ve_var (pv 3)) rfl)
  (vb_cons (vs_fldS (c := "FooledRuns") rfl (T.n_FooledRuns_others) (pv 0) (ve_var (pv 4)) rfl)
  (vb_one (vs_fldS (c := "FooledRuns") rfl (T.n_FooledRuns_shown) (pv 0) (ve_var (pv 5)) rfl)))))) h)
theorem ok_shown_alike {f : Addr} {fd : FuncData} (F : Fun K "shown_alike" "shown_alike" s_shown_alike f fd) (T : Txt K mg) : FnOk P w K mg base CX0 1 f fd ["keeping", "one", "other", "houses", "liars", "others", "is_signed"] (spV (gxOf K w mg) W_shown_alike) := by
  refine F.ok sc_shown_alike (fun vs H Q E h => spV_len (fun h => h.1) h) (fun cdv A outer s H vs Q E hr h => okV (N := N_shown_alike) rfl
  (vb_cons (vs_setF (i := 7) sc_shown_alike.nd rfl (by first | exact Or.inl rfl | exact Or.inr rfl) (vf_lst va_nil))
  (vb_cons (vs_for PassesOwn.never rfl (vi_seq rfl (vo_var (pv 3))) (vg_name (i := 8) sc_shown_alike.nd rfl (by first | exact Or.inl rfl | exact Or.inr rfl))
  (vb_one (vs_if (VW.vt (vw_and (vt_tru rfl (vo_var (pv 6))) (vw_and1 (VW.vt (vw_or (vt_cmp (op_inP rfl (hu_of hr)) os_inP (vo_var (pv 8)) (vo_var (pv 4)) (by rfl)) (vw_or1 (vt_cmp (op_inP rfl (hu_of hr)) os_inP (vo_var (pv 8)) (vo_var (pv 5)) (by rfl))))))))
  (vb_one (vs_expr (ve_app rfl (pv 7) (ve_non pe_non))))
  (vb_one (vs_expr (ve_app rfl (pv 7) (ve_ix rfl (vo_of (ve_ix rfl (vo_of (ve_fld rfl (ve_var (pv 0)) rfl)) (vo_of (ve_ifE (vt_cmp (op_inP rfl (hu_of hr)) os_inP (vo_var (pv 8)) (vo_var (pv 4)) (by rfl)) (ve_var (pv 2)) (ve_var (pv 1)))) (fun _ _ => rfl))) (vo_var (pv 8)) (fun _ _ => rfl))))))))
  (vb_one (vs_ret (ve_ct (kcall_tuple_of rfl) cs_tuple (by rfl) T.tuple (by decide +kernel) (va_cons (vo_var (pv 7)) va_nil)))))) h)
theorem ok_fooled_runs {f : Addr} {fd : FuncData} (F : Fun K "fooled_runs" "fooled_runs" s_fooled_runs f fd) (T : Txt K mg) (D_twins : Df P w K mg base 2 "twins" ["keeping", "houses"] (spV (gxOf K w mg) W_twins)) (D_unlike_at : Df P w K mg base 1 "unlike_at" ["keeping", "one", "other", "houses"] (spV (gxOf K w mg) W_unlike_at)) (D_shown_alike : Df P w K mg base 1 "shown_alike" ["keeping", "one", "other", "houses", "liars", "others", "is_signed"] (spV (gxOf K w mg) W_shown_alike)) (D_lies_needed : Df P w K mg base 1 "lies_needed" ["f", "is_signed"] (spV (gxOf K w mg) W_lies_needed)) {fdI_FooledRuns : FuncData} (GI_FooledRuns : FnOk P w K mg base CX0 1 T.fI_FooledRuns fdI_FooledRuns ["self", "one", "other", "liars", "others", "shown"] (spN (gxOf K w mg) "FooledRuns" W_FooledRuns_init)) (bI_FooledRuns : Binds K fdI_FooledRuns ["self", "one", "other", "liars", "others", "shown"] []) : FnOk P w K mg base CX0 3 f fd ["keeping", "houses", "f", "is_signed"] (spV (gxOf K w mg) W_fooled_runs) := by
  refine F.ok sc_fooled_runs (fun vs H Q E h => spV_len (fun h => h.1) h) (fun cdv A outer s H vs Q E hr h => okV (N := N_fooled_runs) rfl
  (vb_cons (vs_set (i := 4) sc_fooled_runs.nd rfl (by first | exact Or.inl rfl | exact Or.inr rfl) (ve_call D_twins.ok (hr.mono (by first | decide | omega)) (by rfl) D_twins.m D_twins.kp D_twins.b .nil (fun _ _ => .nil) pass0 (va_cons (vo_var (pv 0)) (va_cons (vo_var (pv 1)) va_nil))))
  (vb_cons (vs_if (vt_cmp op_isN os_isN (vo_var (pv 4)) (vo_of (ve_non pe_non)) (nomark _))
  (vb_one (vs_ret (ve_non pe_non)))
  vb_nil)
  (vb_cons (vs_set (i := 5) sc_fooled_runs.nd rfl (by first | exact Or.inl rfl | exact Or.inr rfl) (ve_call D_unlike_at.ok (hr.mono (by first | decide | omega)) (by rfl) D_unlike_at.m D_unlike_at.kp D_unlike_at.b .nil (fun _ _ => .nil) pass0 (va_cons (vo_var (pv 0)) (va_cons (vo_of (ve_ix rfl (vo_var (pv 4)) (vo_of (ve_int pe_int)) (fun _ _ => rfl))) (va_cons (vo_of (ve_ix rfl (vo_var (pv 4)) (vo_of (ve_int pe_int)) (fun _ _ => rfl))) (va_cons (vo_var (pv 1)) va_nil))))))
  (vb_cons (vs_if (vt_cmp op_gt os_gt (vo_of (ve_cb (cr_lenP rfl) cs_len (by rfl) T.len (by decide +kernel) (va_cons (vo_var (pv 5)) va_nil))) (vo_of (ve_call D_lies_needed.ok (hr.mono (by first | decide | omega)) (by rfl) D_lies_needed.m D_lies_needed.kp D_lies_needed.b .nil (fun _ _ => .nil) pass0 (va_cons (vo_var (pv 2)) (va_cons (vo_var (pv 3)) va_nil)))) (nomark _))
  (vb_one (vs_ret (ve_non pe_non)))
  vb_nil)
  (vb_cons (vs_set (i := 6) sc_fooled_runs.nd rfl (by first | exact Or.inl rfl | exact Or.inr rfl) (ve_ifE (vt_tru rfl (vo_var (pv 3))) (ve_var (pv 5)) (ve_sl rfl (vo_var (pv 5)) vp_none (vp_some (ve_var (pv 2))))))
  (vb_cons (vs_set (i := 7) sc_fooled_runs.nd rfl (by first | exact Or.inl rfl | exact Or.inr rfl) (ve_ifE (vt_tru rfl (vo_var (pv 3))) (ve_var (pv 5)) (ve_sl rfl (vo_var (pv 5)) (vp_some (ve_var (pv 2))) vp_none)))
  (vb_cons (vs_set (i := 8) sc_fooled_runs.nd rfl (by first | exact Or.inl rfl | exact Or.inr rfl) (ve_call D_shown_alike.ok (hr.mono (by first | decide | omega)) (by rfl) D_shown_alike.m D_shown_alike.kp D_shown_alike.b .nil (fun _ _ => .nil) pass0 (va_cons (vo_var (pv 0)) (va_cons (vo_of (ve_ix rfl (vo_var (pv 4)) (vo_of (ve_int pe_int)) (fun _ _ => rfl))) (va_cons (vo_of (ve_ix rfl (vo_var (pv 4)) (vo_of (ve_int pe_int)) (fun _ _ => rfl))) (va_cons (vo_var (pv 1)) (va_cons (vo_var (pv 6)) (va_cons (vo_var (pv 7)) (va_cons (vo_var (pv 3)) va_nil)))))))))
  (vb_one (vs_ret (ve_make rfl T.m_FooledRuns T.cl_FooledRuns T.mk_FooledRuns GI_FooledRuns (hr.mono (by first | decide | omega)) (by rfl) T.m_FooledRuns bI_FooledRuns .nil (fun _ _ => .nil) pass0 (va_cons (vo_of (ve_ix rfl (vo_var (pv 4)) (vo_of (ve_int pe_int)) (fun _ _ => rfl))) (va_cons (vo_of (ve_ix rfl (vo_var (pv 4)) (vo_of (ve_int pe_int)) (fun _ _ => rfl))) (va_cons (vo_of (ve_var (pv 6))) (va_cons (vo_of (ve_var (pv 7))) (va_cons (vo_of (ve_var (pv 8))) va_nil))))))))))))))) h)
theorem ok_is_shown {f : Addr} {fd : FuncData} (F : Fun K "is_shown" "is_shown" s_is_shown f fd) (T : Txt K mg) : FnOk P w K mg base CX0 1 f fd ["keeping", "value", "houses", "liars", "shown", "is_signed"] (spV (gxOf K w mg) W_is_shown) := by
  refine F.ok sc_is_shown (fun vs H Q E h => spV_len (fun h => h.1) h) (fun cdv A outer s H vs Q E hr h => okV (N := N_is_shown) rfl
  (vb_cons (vs_for PassesOwn.never rfl (vi_zip rfl (by rfl) T.zip (va_cons (vo_var (pv 2)) (va_cons (vo_var (pv 4)) va_nil))) (vg_tup rfl rfl (vgs_cons (vg_name (i := 6) sc_is_shown.nd rfl (by first | exact Or.inl rfl | exact Or.inr rfl)) (vgs_cons (vg_name (i := 7) sc_is_shown.nd rfl (by first | exact Or.inl rfl | exact Or.inr rfl)) vgs_nil)))
  (vb_cons (vs_set (i := 8) sc_is_shown.nd rfl (by first | exact Or.inl rfl | exact Or.inr rfl) (ve_ix rfl (vo_of (ve_ix rfl (vo_of (ve_fld rfl (ve_var (pv 0)) rfl)) (vo_var (pv 1)) (fun _ _ => rfl))) (vo_var (pv 6)) (fun _ _ => rfl)))
  (vb_cons (vs_if (VW.vt (vw_and (vt_cmp (op_notInP rfl (hu_of hr)) os_inP (vo_var (pv 6)) (vo_var (pv 3)) (by rfl)) (vw_and1 (vt_cmp (kop_neD rfl hr.units) os_ne (vo_var (pv 7)) (vo_var (pv 8)) (nomark _)))))
  (vb_one (vs_ret (ve_bl pe_bl)))
  vb_nil)
  (vb_one (vs_if (VW.vt (vw_and (vt_tru rfl (vo_var (pv 5))) (vw_and (vt_cmp op_notN os_notN (vo_var (pv 7)) (vo_of (ve_non pe_non)) (nomark _)) (vw_and1 (vt_cmp (kop_neD rfl hr.units) os_ne (vo_var (pv 7)) (vo_var (pv 8)) (nomark _))))))
  (vb_one (vs_ret (ve_bl pe_bl)))
  vb_nil)))))
  (vb_one (vs_ret (ve_bl pe_bl)))) h)
theorem ok_are_states {f : Addr} {fd : FuncData} (F : Fun K "are_states" "are_states" s_are_states f fd) (T : Txt K mg) (D_is_number : Df P w K mg base 2 "is_number" ["value", "most"] (spV (gxOf K w mg) W_is_number)) : FnOk P w K mg base CX0 3 f fd ["keeping", "houses", "value"] (spV (gxOf K w mg) W_are_states) := by
  refine F.ok sc_are_states (fun vs H Q E h => spV_len (fun h => h.1) h) (fun cdv A outer s H vs Q E hr h => okV (N := N_are_states) rfl
  (vb_cons (vs_if (VW.vt (vw_or (vt_not (vt_tru rfl (vo_of (ve_isiB (cs := ["FooledRuns", "Keeping"]) (U := .tuple) rfl (vo_var (pv 2)) (pe_ty "tuple" (by rfl) T.tuple) (by rfl) T.isinstance T.known (fun c hc C hC => T.kU c hc C hC _))))) (vw_or1 (vt_cmp (kop_neD rfl hr.units) os_ne (vo_of (ve_cb (cr_lenP rfl) cs_len (by rfl) T.len (by decide +kernel) (va_cons (vo_var (pv 2)) va_nil))) (vo_of (ve_cb (cr_lenP rfl) cs_len (by rfl) T.len (by decide +kernel) (va_cons (vo_var (pv 1)) va_nil))) (nomark _)))))
  (vb_one (vs_ret (ve_bl pe_bl)))
  vb_nil)
  (vb_one (vs_ret (ve_cb (kcr_all rfl rfl) cs_all (by rfl) T.all (by decide +kernel) (va_cons (vo_of (ve_fz (vf_lc (own := [("one", 3)]) rfl sc_are_states.nd (vi_seq rfl (vo_var (pv 2))) (blkOk_by (own := [("one", 3)]) (N := N_are_states) (sc := defScope s_are_states) (by decide +kernel)) (fun _ _ _ _ _ => (vg_name (i := 3) sc_are_states.nd rfl (by first | exact Or.inl rfl | exact Or.inr rfl))) (fun _ _ _ _ _ => vts_nil) (fun _ _ _ _ _ => (ve_or (ve_cmp op_isN os_isN (vo_var (pv 3)) (vo_of (ve_non pe_non)) (nomark _)) (ve_one (ve_call D_is_number.ok (hr.mono (by first | decide | omega)) (by rfl) D_is_number.m D_is_number.kp D_is_number.b .nil (fun _ _ => .nil) pass0 (va_cons (vo_var (pv 3)) (va_cons (vo_of (ve_op op_sub os_sub (vo_of (ve_fld rfl (ve_var (pv 0)) rfl)) (vo_of (ve_int pe_int)))) va_nil))))))))) va_nil))))) h)
theorem ok_are_fooled_runs {f : Addr} {fd : FuncData} (F : Fun K "are_fooled_runs" "are_fooled_runs" s_are_fooled_runs f fd) (T : Txt K mg) (D_are_states : Df P w K mg base 3 "are_states" ["keeping", "houses", "value"] (spV (gxOf K w mg) W_are_states)) (D_lot_of : Df P w K mg base 3 "lot_of" ["value", "many"] (spV (gxOf K w mg) W_lot_of)) (D_is_shown : Df P w K mg base 1 "is_shown" ["keeping", "value", "houses", "liars", "shown", "is_signed"] (spV (gxOf K w mg) W_is_shown)) (D_is_number : Df P w K mg base 2 "is_number" ["value", "most"] (spV (gxOf K w mg) W_is_number)) : FnOk P w K mg base CX0 4 f fd ["keeping", "houses", "f", "is_signed", "value"] (spV (gxOf K w mg) W_are_fooled_runs) := by
  refine F.ok sc_are_fooled_runs (fun vs H Q E h => spV_len (fun h => h.1) h) (fun cdv A outer s H vs Q E hr h => okV (N := N_are_fooled_runs) rfl
  (vb_cons (vs_if (VW.vt (vw_or (vt_not (vt_tru rfl (vo_of (ve_isiO (cs := ["FooledRuns", "Keeping"]) (c := "FooledRuns") rfl (vo_var (pv 4)) (pe_glob (v := .ref T.C_FooledRuns) (by rfl) T.m_FooledRuns rfl) (by rfl) T.isinstance T.known T.kB_FooledRuns T.kC_FooledRuns)))) (vw_or1 (vt_not (vt_tru rfl (vo_of (ve_call D_are_states.ok (hr.mono (by first | decide | omega)) (by rfl) D_are_states.m D_are_states.kp D_are_states.b .nil (fun _ _ => .nil) pass0 (va_cons (vo_var (pv 0)) (va_cons (vo_var (pv 1)) (va_cons (vo_of (ve_fld rfl (ve_var (pv 4)) rfl)) va_nil))))))))))
  (vb_one (vs_ret (ve_bl pe_bl)))
  vb_nil)
  (vb_cons (vs_if (VW.vt (vw_or (vt_not (vt_tru rfl (vo_of (ve_cb (kcr_all rfl rfl) cs_all (by rfl) T.all (by decide +kernel) (va_cons (vo_of (ve_fz (vf_lc (own := [("one", 7)]) rfl sc_are_fooled_runs.nd (vi_seq rfl (vo_of (ve_tup (va_cons (vo_of (ve_fld rfl (ve_var (pv 4)) rfl)) (va_cons (vo_of (ve_fld rfl (ve_var (pv 4)) rfl)) va_nil))))) (blkOk_by (own := [("one", 7)]) (N := N_are_fooled_runs) (sc := defScope s_are_fooled_runs) (by decide +kernel)) (fun _ _ _ _ _ => (vg_name (i := 7) sc_are_fooled_runs.nd rfl (by first | exact Or.inl rfl | exact Or.inr rfl))) (fun _ _ _ _ _ => vts_nil) (fun _ _ _ _ _ => (ve_call D_is_number.ok (hr.mono (by first | decide | omega)) (by rfl) D_is_number.m D_is_number.kp D_is_number.b .nil (fun _ _ => .nil) pass0 (va_cons (vo_var (pv 7)) (va_cons (vo_of (ve_op op_sub os_sub (vo_of (ve_cb (cr_lenP rfl) cs_len (by rfl) T.len (by decide +kernel) (va_cons (vo_of (ve_fld rfl (ve_var (pv 0)) rfl)) va_nil))) (vo_of (ve_int pe_int)))) va_nil))))))) va_nil))))) (vw_or1 (vt_cmp (kop_eqD rfl hr.units) os_eq (vo_of (ve_fld rfl (ve_var (pv 4)) rfl)) (vo_of (ve_fld rfl (ve_var (pv 4)) rfl)) (nomark _)))))
  (vb_one (vs_ret (ve_bl pe_bl)))
  vb_nil)
  (vb_cons (vs_for PassesOwn.never rfl (vi_seq rfl (vo_of (ve_tup (va_cons (vo_of (ve_tup (va_cons (vo_of (ve_fld rfl (ve_var (pv 4)) rfl)) (va_cons (vo_of (ve_fld rfl (ve_var (pv 4)) rfl)) va_nil)))) (va_cons (vo_of (ve_tup (va_cons (vo_of (ve_fld rfl (ve_var (pv 4)) rfl)) (va_cons (vo_of (ve_fld rfl (ve_var (pv 4)) rfl)) va_nil)))) va_nil))))) (vg_tup rfl rfl (vgs_cons (vg_name (i := 5) sc_are_fooled_runs.nd rfl (by first | exact Or.inl rfl | exact Or.inr rfl)) (vgs_cons (vg_name (i := 6) sc_are_fooled_runs.nd rfl (by first | exact Or.inl rfl | exact Or.inr rfl)) vgs_nil)))
  (vb_cons (vs_if (VW.vt (vw_or (vt_not (vt_tru rfl (vo_of (ve_isiB (cs := ["FooledRuns", "Keeping"]) (U := .tuple) rfl (vo_var (pv 6)) (pe_ty "tuple" (by rfl) T.tuple) (by rfl) T.isinstance T.known (fun c hc C hC => T.kU c hc C hC _))))) (vw_or (vt_cmp op_isN os_isN (vo_of (ve_call D_lot_of.ok (hr.mono (by first | decide | omega)) (by rfl) D_lot_of.m D_lot_of.kp D_lot_of.b .nil (fun _ _ => .nil) pass0 (va_cons (vo_var (pv 6)) (va_cons (vo_of (ve_cb (cr_lenP rfl) cs_len (by rfl) T.len (by decide +kernel) (va_cons (vo_of (ve_ix rfl (vo_of (ve_fld rfl (ve_var (pv 0)) rfl)) (vo_of (ve_int pe_int)) (fun _ _ => rfl))) va_nil))) va_nil)))) (vo_of (ve_non pe_non)) (nomark _)) (vw_or1 (vt_cmp op_gt os_gt (vo_of (ve_cb (cr_lenP rfl) cs_len (by rfl) T.len (by decide +kernel) (va_cons (vo_var (pv 6)) va_nil))) (vo_var (pv 2)) (nomark _))))))
  (vb_one (vs_ret (ve_bl pe_bl)))
  vb_nil)
  (vb_one (vs_if (VW.vt (vw_or (vt_not (vt_tru rfl (vo_of (ve_cb (kcr_all rfl rfl) cs_all (by rfl) T.all (by decide +kernel) (va_cons (vo_of (ve_fz (vf_lc (own := [("x", 8)]) rfl sc_are_fooled_runs.nd (vi_seq rfl (vo_var (pv 6))) (blkOk_by (own := [("x", 8)]) (N := N_are_fooled_runs) (sc := defScope s_are_fooled_runs) (by decide +kernel)) (fun _ _ _ _ _ => (vg_name (i := 8) sc_are_fooled_runs.nd rfl (by first | exact Or.inl rfl | exact Or.inr rfl))) (fun _ _ _ _ _ => vts_nil) (fun _ _ _ _ _ => (ve_cmp (op_inP rfl (hu_of hr)) os_inP (vo_var (pv 8)) (vo_var (pv 1)) (by rfl)))))) va_nil))))) (vw_or1 (vt_not (vt_tru rfl (vo_of (ve_call D_is_shown.ok (hr.mono (by first | decide | omega)) (by rfl) D_is_shown.m D_is_shown.kp D_is_shown.b .nil (fun _ _ => .nil) pass0 (va_cons (vo_var (pv 0)) (va_cons (vo_var (pv 5)) (va_cons (vo_var (pv 1)) (va_cons (vo_var (pv 6)) (va_cons (vo_of (ve_fld rfl (ve_var (pv 4)) rfl)) (va_cons (vo_var (pv 3)) va_nil)))))))))))))
  (vb_one (vs_ret (ve_bl pe_bl)))
  vb_nil))))
  (vb_one (vs_ret (ve_bl pe_bl)))))) h)
theorem ok__law_pick {f : Addr} {fd : FuncData} (F : Fun K "_law_pick" "_law_pick" s__law_pick f fd) (T : Txt K mg) (D__law_draw : Df P w K mg base 1 "_law_draw" ["heap", "many"] (spV (gxOf K w mg) W__law_draw)) : FnOk P w K mg base CX0 2 f fd ["heap", "some"] (spV (gxOf K w mg) W__law_pick) := by
  refine F.ok sc__law_pick (fun vs H Q E h => spV_len (fun h => h.1) h) (fun cdv A outer s H vs Q E hr h => okV (N := N__law_pick) rfl
  (vb_one (vs_ret (ve_ix rfl (vo_var (pv 1)) (vo_of (ve_call D__law_draw.ok (hr.mono (by first | decide | omega)) (by rfl) D__law_draw.m D__law_draw.kp D__law_draw.b .nil (fun _ _ => .nil) pass0 (va_cons (vo_var (pv 0)) (va_cons (vo_of (ve_cb (cr_lenP rfl) cs_len (by rfl) T.len (by decide +kernel) (va_cons (vo_var (pv 1)) va_nil))) va_nil)))) (fun _ _ => rfl)))) h)
theorem okP__law_pick {f : Addr} {fd : FuncData} (F : Fun K "_law_pick" "_law_pick" s__law_pick f fd) (T : Txt K mg) (D__law_draw : Df P w K mg base 1 "_law_draw" ["heap", "many"] (spV (gxOf K w mg) W__law_draw)) : FnOk P w K mg base CX0 2 f fd ["heap", "some"] (spP (gxOf K w mg) WP__law_pick) := by
  refine F.ok sc__law_pick (fun vs H Q E h => spP_len (fun h => h.1.1) h) (fun cdv A outer s H vs Q E hr h => okP (N := N__law_pick) rfl
  (vb_one (vs_ret (ve_ix rfl (vo_var (pv 1)) (vo_of (ve_call D__law_draw.ok (hr.mono (by first | decide | omega)) (by rfl) D__law_draw.m D__law_draw.kp D__law_draw.b .nil (fun _ _ => .nil) pass0 (va_cons (vo_var (pv 0)) (va_cons (vo_of (ve_cb (cr_lenP rfl) cs_len (by rfl) T.len (by decide +kernel) (va_cons (vo_var (pv 1)) va_nil))) va_nil)))) (fun _ _ => rfl)))) h)
theorem ok__law_mixed {f : Addr} {fd : FuncData} (F : Fun K "_law_mixed" "_law_mixed" s__law_mixed f fd) (T : Txt K mg) (D__law_draw : Df P w K mg base 1 "_law_draw" ["heap", "many"] (spV (gxOf K w mg) W__law_draw)) : FnOk P w K mg base CX0 2 f fd ["heap", "some"] (spV (gxOf K w mg) W__law_mixed) := by
  refine F.ok sc__law_mixed (fun vs H Q E h => spV_len (fun h => h.1) h) (fun cdv A outer s H vs Q E hr h => okV (N := N__law_mixed) rfl
  (vb_cons (vs_par2 (i := 2) (j := 3) rfl sc__law_mixed.nd rfl rfl  (by decide)  rfl rfl  (vqs_cons (vq_f (vf_ct (kcall_list_of rfl) csf_list (by rfl) T.list (by decide +kernel) (va_cons (vo_var (pv 1)) va_nil))) (vqs_cons (vq_f (vf_lst va_nil)) vqs_nil)) (by rfl))
  (vb_cons (vs_for PassesOwn.never rfl (vi_rg1 (by rfl) T.range (va_cons (vo_of (ve_cb (cr_lenP rfl) cs_len (by rfl) T.len (by decide +kernel) (va_cons (vo_var (pv 1)) va_nil))) va_nil)) (vg_name (i := 4) sc__law_mixed.nd rfl (by first | exact Or.inl rfl | exact Or.inr rfl))
  (vb_one (vs_expr (ve_app rfl (pv 3) (ve_popAt rfl (pv 2) (ve_call D__law_draw.ok (hr.mono (by first | decide | omega)) (by rfl) D__law_draw.m D__law_draw.kp D__law_draw.b .nil (fun _ _ => .nil) pass0 (va_cons (vo_var (pv 0)) (va_cons (vo_of (ve_cb (cr_lenP rfl) cs_len (by rfl) T.len (by decide +kernel) (va_cons (vo_var (pv 2)) va_nil))) va_nil))))))))
  (vb_one (vs_ret (ve_ct (kcall_tuple_of rfl) cs_tuple (by rfl) T.tuple (by decide +kernel) (va_cons (vo_var (pv 3)) va_nil)))))) h)
theorem ok__law_like_of {k : Nat} {W__law_like : WF1} {f : Addr} {fd : FuncData} (F : Fun K "_law_like" "_law_like" s__law_like f fd) (T : Txt K mg) (hk : 0 ≤ k) (D__law_like : Df P w K mg base k "_law_like" ["told", "due"] (spV (gxOf K w mg) W__law_like)) : FnOk P w K mg base CX0 (k + 1) f fd ["told", "due"] (spV (gxOf K w mg) (W__law_like_of W__law_like)) := by
  refine F.ok sc__law_like (fun vs H Q E h => spV_len (fun h => h.1) h) (fun cdv A outer s H vs Q E hr h => okV (N := N__law_like) rfl
  (vb_cons (vs_if (vt_tru rfl (vo_of (ve_isiB (cs := ["FooledRuns", "Keeping"]) (U := .tuple) rfl (vo_var (pv 1)) (pe_ty "tuple" (by rfl) T.tuple) (by rfl) T.isinstance T.known (fun c hc C hC => T.kU c hc C hC _))))
  (vb_one (vs_ret (ve_and (ve_isiB (cs := ["FooledRuns", "Keeping"]) (U := .tuple) rfl (vo_var (pv 0)) (pe_ty "tuple" (by rfl) T.tuple) (by rfl) T.isinstance T.known (fun c hc C hC => T.kU c hc C hC _)) (ve_and (ve_cmp (kop_eqD rfl hr.units) os_eq (vo_of (ve_cb (cr_lenP rfl) cs_len (by rfl) T.len (by decide +kernel) (va_cons (vo_var (pv 0)) va_nil))) (vo_of (ve_cb (cr_lenP rfl) cs_len (by rfl) T.len (by decide +kernel) (va_cons (vo_var (pv 1)) va_nil))) (nomark _)) (ve_one (ve_cb (kcr_all rfl rfl) cs_all (by rfl) T.all (by decide +kernel) (va_cons (vo_of (ve_fz (vf_lc (own := [("at", 2)]) rfl sc__law_like.nd (vi_rg1 (by rfl) T.range (va_cons (vo_of (ve_cb (cr_lenP rfl) cs_len (by rfl) T.len (by decide +kernel) (va_cons (vo_var (pv 1)) va_nil))) va_nil)) (blkOk_by (own := [("at", 2)]) (N := N__law_like) (sc := defScope s__law_like) (by decide +kernel)) (fun _ _ _ _ _ => (vg_name (i := 2) sc__law_like.nd rfl (by first | exact Or.inl rfl | exact Or.inr rfl))) (fun _ _ _ _ _ => vts_nil) (fun _ _ _ _ _ => (ve_call D__law_like.ok (hr.mono (by first | decide | omega)) (by rfl) D__law_like.m D__law_like.kp D__law_like.b .nil (fun _ _ => .nil) pass0 (va_cons (vo_of (ve_ix rfl (vo_var (pv 0)) (vo_var (pv 2)) (fun _ _ => rfl))) (va_cons (vo_of (ve_ix rfl (vo_var (pv 1)) (vo_var (pv 2)) (fun _ _ => rfl))) va_nil))))))) va_nil)))))))
  vb_nil)
  (vb_cons (vs_if (vt_cmp op_isN os_isN (vo_var (pv 1)) (vo_of (ve_non pe_non)) (nomark _))
  (vb_one (vs_ret (ve_cmp op_isN os_isN (vo_var (pv 0)) (vo_of (ve_non pe_non)) (nomark _))))
  vb_nil)
  (vb_cons (vs_if (vt_tru rfl (vo_of (ve_isiB (cs := ["FooledRuns", "Keeping"]) (U := .bool) rfl (vo_var (pv 1)) (pe_ty "bool" (by rfl) T.bool) (by rfl) T.isinstance T.known (fun c hc C hC => T.kU c hc C hC _))))
  (vb_one (vs_ret (ve_ifE (vt_tru rfl (vo_var (pv 1))) (ve_cmp op_isBl os_isB (vo_var (pv 0)) (vo_of (ve_bl pe_bl)) (nomark _)) (ve_cmp op_isBl os_isB (vo_var (pv 0)) (vo_of (ve_bl pe_bl)) (nomark _)))))
  vb_nil)
  (vb_cons (vs_if (vt_tru rfl (vo_of (ve_isiB (cs := ["FooledRuns", "Keeping"]) (U := .int) rfl (vo_var (pv 1)) (pe_ty "int" (by rfl) T.int) (by rfl) T.isinstance T.known (fun c hc C hC => T.kU c hc C hC _))))
  (vb_one (vs_ret (ve_and (ve_isiB (cs := ["FooledRuns", "Keeping"]) (U := .int) rfl (vo_var (pv 0)) (pe_ty "int" (by rfl) T.int) (by rfl) T.isinstance T.known (fun c hc C hC => T.kU c hc C hC _)) (ve_and (ve_not (ve_isiB (cs := ["FooledRuns", "Keeping"]) (U := .bool) rfl (vo_var (pv 0)) (pe_ty "bool" (by rfl) T.bool) (by rfl) T.isinstance T.known (fun c hc C hC => T.kU c hc C hC _))) (ve_one (ve_cmp (kop_eqD rfl hr.units) os_eq (vo_var (pv 0)) (vo_var (pv 1)) (nomark _)))))))
  vb_nil)
  (vb_one (vs_ret (ve_and (ve_isiB (cs := ["FooledRuns", "Keeping"]) (U := .str) rfl (vo_var (pv 0)) (pe_ty "str" (by rfl) T.str) (by rfl) T.isinstance T.known (fun c hc C hC => T.kU c hc C hC _)) (ve_one (ve_cmp (kop_eqD rfl hr.units) os_eq (vo_var (pv 0)) (vo_var (pv 1)) (nomark _)))))))))) h)
theorem ok__law_rows {f : Addr} {fd : FuncData} (F : Fun K "_law_rows" "_law_rows" s__law_rows f fd) (T : Txt K mg) (D__law_draw : Df P w K mg base 1 "_law_draw" ["heap", "many"] (spV (gxOf K w mg) W__law_draw)) (D__law_pick : Df P w K mg base 2 "_law_pick" ["heap", "some"] (spV (gxOf K w mg) W__law_pick)) (D__law_mixed : Df P w K mg base 2 "_law_mixed" ["heap", "some"] (spV (gxOf K w mg) W__law_mixed)) : FnOk P w K mg base CX0 3 f fd ["heap", "houses"] (spV (gxOf K w mg) W__law_rows) := by
  refine F.ok sc__law_rows (fun vs H Q E h => spV_len (fun h => h.1) h) (fun cdv A outer s H vs Q E hr h => okV (N := N__law_rows) rfl
  (vb_cons (vs_parT (is := [2, 3, 4]) (vqs_cons (vq_v (ve_op (op_addP rfl) os_add (vo_of (ve_int pe_int)) (vo_of (ve_call D__law_draw.ok (hr.mono (by first | decide | omega)) (by rfl) D__law_draw.m D__law_draw.kp D__law_draw.b .nil (fun _ _ => .nil) pass0 (va_cons (vo_var (pv 0)) (va_cons (vo_of (ve_call D__law_pick.ok (hr.mono (by first | decide | omega)) (by rfl) D__law_pick.m D__law_pick.kp D__law_pick.b .nil (fun _ _ => .nil) pass0 (va_cons (vo_var (pv 0)) (va_cons (vo_of (ve_fz (vf_lst (va_cons (vo_of (ve_int pe_int)) (va_cons (vo_of (ve_int pe_int)) (va_cons (vo_of (ve_int pe_int)) va_nil)))))) va_nil)))) va_nil)))))) (vqs_cons (vq_v (ve_call D__law_draw.ok (hr.mono (by first | decide | omega)) (by rfl) D__law_draw.m D__law_draw.kp D__law_draw.b .nil (fun _ _ => .nil) pass0 (va_cons (vo_var (pv 0)) (va_cons (vo_of (ve_int pe_int)) va_nil)))) (vqs_cons vq_dit vqs_nil))) (kpg_tup (K := K) (n := 3) rfl rfl (pgs_cons (pg_name (i := 2) sc__law_rows.nd rfl (by first | exact Or.inl rfl | exact Or.inr rfl)) (pgs_cons (pg_name (i := 3) sc__law_rows.nd rfl (by first | exact Or.inl rfl | exact Or.inr rfl)) (pgs_cons (pg_name (i := 4) sc__law_rows.nd rfl (by first | exact Or.inl rfl | exact Or.inr rfl)) pgs_nil)))))
  (vb_cons (vs_for PassesOwn.never rfl (vi_rg1 (by rfl) T.range (va_cons (vo_of (ve_op (op_addP rfl) os_add (vo_of (ve_int pe_int)) (vo_of (ve_call D__law_draw.ok (hr.mono (by first | decide | omega)) (by rfl) D__law_draw.m D__law_draw.kp D__law_draw.b .nil (fun _ _ => .nil) pass0 (va_cons (vo_var (pv 0)) (va_cons (vo_of (ve_int pe_int)) va_nil)))))) va_nil)) (vg_name (i := 5) sc__law_rows.nd rfl (by first | exact Or.inl rfl | exact Or.inr rfl))
  (vb_cons (vs_set (i := 6) sc__law_rows.nd rfl (by first | exact Or.inl rfl | exact Or.inr rfl) (ve_fz (vf_lc (own := [("part", 10)]) rfl sc__law_rows.nd (vi_rg1 (by rfl) T.range (va_cons (vo_of (ve_int pe_int)) va_nil)) (blkOk_by (own := [("part", 10)]) (N := N__law_rows) (sc := defScope s__law_rows) (by decide +kernel)) (fun _ _ _ _ _ => (vg_name (i := 10) sc__law_rows.nd rfl (by first | exact Or.inl rfl | exact Or.inr rfl))) (fun _ _ _ _ _ => vts_nil) (fun _ _ _ _ _ => (ve_call D__law_draw.ok (hr.mono (by first | decide | omega)) (by rfl) D__law_draw.m D__law_draw.kp D__law_draw.b .nil (fun _ _ => .nil) pass0 (va_cons (vo_var (pv 0)) (va_cons (vo_var (pv 2)) va_nil)))))))
  (vb_cons (vs_set (i := 7) sc__law_rows.nd rfl (by first | exact Or.inl rfl | exact Or.inr rfl) (ve_ct (kcall_tuple_of rfl) cs_tuple (by rfl) T.tuple (by decide +kernel) (va_cons (vo_of (ve_fz (vf_lc (own := [("house", 11)]) rfl sc__law_rows.nd (vi_rg1 (by rfl) T.range (va_cons (vo_var (pv 1)) va_nil)) (blkOk_by (own := [("house", 11)]) (N := N__law_rows) (sc := defScope s__law_rows) (by decide +kernel)) (fun _ _ _ _ _ => (vg_name (i := 11) sc__law_rows.nd rfl (by first | exact Or.inl rfl | exact Or.inr rfl))) (fun _ _ _ _ _ => vts_nil) (fun _ _ _ _ _ => (ve_call D__law_draw.ok (hr.mono (by first | decide | omega)) (by rfl) D__law_draw.m D__law_draw.kp D__law_draw.b .nil (fun _ _ => .nil) pass0 (va_cons (vo_var (pv 0)) (va_cons (vo_var (pv 2)) va_nil))))))) va_nil)))
  (vb_cons (vs_if (vt_cmp (kop_eqD rfl hr.units) os_eq (vo_var (pv 3)) (vo_of (ve_int pe_int)) (nomark _))
  (vb_one (vs_set (i := 7) sc__law_rows.nd rfl (by first | exact Or.inl rfl | exact Or.inr rfl) (ve_op (op_mulQ rfl) os_mulQ (vo_of (ve_tup (va_cons (vo_of (ve_ix rfl (vo_var (pv 6)) (vo_of (ve_int pe_int)) (fun _ _ => rfl))) va_nil))) (vo_var (pv 1)))))
  vb_nil)
  (vb_cons (vs_if (vt_cmp (kop_eqD rfl hr.units) os_eq (vo_var (pv 3)) (vo_of (ve_int pe_int)) (nomark _))
  (vb_one (vs_set (i := 7) sc__law_rows.nd rfl (by first | exact Or.inl rfl | exact Or.inr rfl) (ve_ct (kcall_tuple_of rfl) cs_tuple (by rfl) T.tuple (by decide +kernel) (va_cons (vo_of (ve_fz (vf_lc (own := [("house", 11)]) rfl sc__law_rows.nd (vi_rg1 (by rfl) T.range (va_cons (vo_var (pv 1)) va_nil)) (blkOk_by (own := [("house", 11)]) (N := N__law_rows) (sc := defScope s__law_rows) (by decide +kernel)) (fun _ _ _ _ _ => (vg_name (i := 11) sc__law_rows.nd rfl (by first | exact Or.inl rfl | exact Or.inr rfl))) (fun _ _ _ _ _ => vts_nil) (fun _ _ _ _ _ => (ve_op op_mod os_mod (vo_of (ve_ct (call_int1) cs_int (by rfl) T.int (by decide +kernel) (va_cons (vo_of (ve_op (op_addP rfl) os_add (vo_of (ve_ix rfl (vo_var (pv 6)) (vo_of (ve_int pe_int)) (fun _ _ => rfl))) (vo_of (ve_op (op_mulP rfl) os_mul (vo_of (ve_ix rfl (vo_var (pv 6)) (vo_of (ve_int pe_int)) (fun _ _ => rfl))) (vo_of (ve_op (op_addP rfl) os_add (vo_var (pv 11)) (vo_of (ve_int pe_int)))))))) va_nil))) (vo_var (pv 2))))))) va_nil))))
  vb_nil)
  (vb_cons (vs_if (VW.vt (vw_and (vt_cmp (kop_eqD rfl hr.units) os_eq (vo_var (pv 3)) (vo_of (ve_int pe_int)) (nomark _)) (vw_and1 (vt_tne (Nat.lt_of_succ_lt (hu_of hr)) (pv 4) (by rfl)))))
  (vb_cons (vs_set (i := 7) sc__law_rows.nd rfl (by first | exact Or.inl rfl | exact Or.inr rfl) (ve_call D__law_pick.ok (hr.mono (by first | decide | omega)) (by rfl) D__law_pick.m D__law_pick.kp D__law_pick.b .nil (fun _ _ => .nil) pass0 (va_cons (vo_var (pv 0)) (va_cons (vo_of (ve_fz (vf_tlist rfl (by rfl) T.list (pv 4)))) va_nil))))
  (vb_one (vs_for PassesOwn.never rfl (vi_rg1 (by rfl) T.range (va_cons (vo_of (ve_op (op_addP rfl) os_add (vo_of (ve_int pe_int)) (vo_of (ve_call D__law_draw.ok (hr.mono (by first | decide | omega)) (by rfl) D__law_draw.m D__law_draw.kp D__law_draw.b .nil (fun _ _ => .nil) pass0 (va_cons (vo_var (pv 0)) (va_cons (vo_of (ve_int pe_int)) va_nil)))))) va_nil)) (vg_name (i := 8) sc__law_rows.nd rfl (by first | exact Or.inl rfl | exact Or.inr rfl))
  (vb_cons (vs_set (i := 9) sc__law_rows.nd rfl (by first | exact Or.inl rfl | exact Or.inr rfl) (ve_call D__law_draw.ok (hr.mono (by first | decide | omega)) (by rfl) D__law_draw.m D__law_draw.kp D__law_draw.b .nil (fun _ _ => .nil) pass0 (va_cons (vo_var (pv 0)) (va_cons (vo_var (pv 1)) va_nil))))
  (vb_one (vs_set (i := 7) sc__law_rows.nd rfl (by first | exact Or.inl rfl | exact Or.inr rfl) (ve_op (op_addP rfl) os_add (vo_of (ve_op (op_addP rfl) os_add (vo_of (ve_sl rfl (vo_var (pv 7)) vp_none (vp_some (ve_var (pv 9))))) (vo_of (ve_tup (va_cons (vo_of (ve_call D__law_draw.ok (hr.mono (by first | decide | omega)) (by rfl) D__law_draw.m D__law_draw.kp D__law_draw.b .nil (fun _ _ => .nil) pass0 (va_cons (vo_var (pv 0)) (va_cons (vo_var (pv 2)) va_nil)))) va_nil))))) (vo_of (ve_sl rfl (vo_var (pv 7)) (vp_some (ve_op (op_addP rfl) os_add (vo_var (pv 9)) (vo_of (ve_int pe_int)))) vp_none)))))))))
  vb_nil)
  (vb_one (vs_tput (hu_of hr) (pv 4) (ve_var (pv 7)) (ve_bl pe_bl)))))))))
  (vb_one (vs_ret (ve_tup (va_cons (vo_of (ve_var (pv 2))) (va_cons (vo_of (ve_ct (kcall_tuple_of rfl) cs_tuple (by rfl) T.tuple (by decide +kernel) (va_cons (vo_of (ve_call D__law_mixed.ok (hr.mono (by first | decide | omega)) (by rfl) D__law_mixed.m D__law_mixed.kp D__law_mixed.b .nil (fun _ _ => .nil) pass0 (va_cons (vo_var (pv 0)) (va_cons (vo_of (ve_fz (vf_tlist rfl (by rfl) T.list (pv 4)))) va_nil)))) va_nil))) va_nil))))))) h)
theorem ok__law_least {f : Addr} {fd : FuncData} (F : Fun K "_law_least" "_law_least" s__law_least f fd) (T : Txt K mg) : FnOk P w K mg base CX0 1 f fd ["rows", "houses"] (spV (gxOf K w mg) W__law_least) := by
  refine F.ok sc__law_least (fun vs H Q E h => spV_len (fun h => h.1) h) (fun cdv A outer s H vs Q E hr h => okV (N := N__law_least) rfl
  (vb_cons (vs_set (i := 2) sc__law_least.nd rfl (by first | exact Or.inl rfl | exact Or.inr rfl) (ve_non pe_non))
  (vb_cons (vs_for PassesOwn.never rfl (vi_rg1 (by rfl) T.range (va_cons (vo_of (ve_cb (cr_lenP rfl) cs_len (by rfl) T.len (by decide +kernel) (va_cons (vo_var (pv 0)) va_nil))) va_nil)) (vg_name (i := 3) sc__law_least.nd rfl (by first | exact Or.inl rfl | exact Or.inr rfl))
  (vb_one (vs_for PassesOwn.never rfl (vi_rg2 (by rfl) T.range (va_cons (vo_of (ve_op (op_addP rfl) os_add (vo_var (pv 3)) (vo_of (ve_int pe_int)))) (va_cons (vo_of (ve_cb (cr_lenP rfl) cs_len (by rfl) T.len (by decide +kernel) (va_cons (vo_var (pv 0)) va_nil))) va_nil))) (vg_name (i := 4) sc__law_least.nd rfl (by first | exact Or.inl rfl | exact Or.inr rfl))
  (vb_cons (vs_set (i := 5) sc__law_least.nd rfl (by first | exact Or.inl rfl | exact Or.inr rfl) (ve_cb (cr_lenP rfl) cs_len (by rfl) T.len (by decide +kernel) (va_cons (vo_of (ve_fz (vf_lc (own := [("house", 6)]) rfl sc__law_least.nd (vi_seq rfl (vo_var (pv 1))) (blkOk_by (own := [("house", 6)]) (N := N__law_least) (sc := defScope s__law_least) (by decide +kernel)) (fun _ _ _ _ _ => (vg_name (i := 6) sc__law_least.nd rfl (by first | exact Or.inl rfl | exact Or.inr rfl))) (fun _ _ _ _ _ => (vts_one (vt_cmp (kop_neD rfl hr.units) os_ne (vo_of (ve_ix rfl (vo_of (ve_ix rfl (vo_var (pv 0)) (vo_var (pv 3)) (fun _ _ => rfl))) (vo_var (pv 6)) (fun _ _ => rfl))) (vo_of (ve_ix rfl (vo_of (ve_ix rfl (vo_var (pv 0)) (vo_var (pv 4)) (fun _ _ => rfl))) (vo_var (pv 6)) (fun _ _ => rfl))) (nomark _)))) (fun _ _ _ _ _ => (ve_var (pv 6)))))) va_nil)))
  (vb_one (vs_set (i := 2) sc__law_least.nd rfl (by first | exact Or.inl rfl | exact Or.inr rfl) (ve_ifE (VW.vt (vw_or (vt_cmp op_isN os_isN (vo_var (pv 2)) (vo_of (ve_non pe_non)) (nomark _)) (vw_or1 (vt_cmp op_lt os_lt (vo_var (pv 5)) (vo_var (pv 2)) (nomark _))))) (ve_var (pv 5)) (ve_var (pv 2)))))))))
  (vb_one (vs_ret (ve_var (pv 2)))))) h)
theorem ok__law_is_lot {f : Addr} {fd : FuncData} (F : Fun K "_law_is_lot" "_law_is_lot" s__law_is_lot f fd) (T : Txt K mg) : FnOk P w K mg base CX0 1 f fd ["value", "most"] (spV (gxOf K w mg) W__law_is_lot) := by
  refine F.ok sc__law_is_lot (fun vs H Q E h => spV_len (fun h => h.1) h) (fun cdv A outer s H vs Q E hr h => okV (N := N__law_is_lot) rfl
  (vb_cons (vs_if (VW.vt (vw_or (vt_not (vt_tru rfl (vo_of (ve_isiB (cs := ["FooledRuns", "Keeping"]) (U := .tuple) rfl (vo_var (pv 0)) (pe_ty "tuple" (by rfl) T.tuple) (by rfl) T.isinstance T.known (fun c hc C hC => T.kU c hc C hC _))))) (vw_or1 (vt_not (vt_tru rfl (vo_of (ve_cb (kcr_all rfl rfl) cs_all (by rfl) T.all (by decide +kernel) (va_cons (vo_of (ve_fz (vf_lc (own := [("one", 2)]) rfl sc__law_is_lot.nd (vi_seq rfl (vo_var (pv 0))) (blkOk_by (own := [("one", 2)]) (N := N__law_is_lot) (sc := defScope s__law_is_lot) (by decide +kernel)) (fun _ _ _ _ _ => (vg_name (i := 2) sc__law_is_lot.nd rfl (by first | exact Or.inl rfl | exact Or.inr rfl))) (fun _ _ _ _ _ => vts_nil) (fun _ _ _ _ _ => (ve_and (ve_isiB (cs := ["FooledRuns", "Keeping"]) (U := .int) rfl (vo_var (pv 2)) (pe_ty "int" (by rfl) T.int) (by rfl) T.isinstance T.known (fun c hc C hC => T.kU c hc C hC _)) (ve_and (ve_not (ve_isiB (cs := ["FooledRuns", "Keeping"]) (U := .bool) rfl (vo_var (pv 2)) (pe_ty "bool" (by rfl) T.bool) (by rfl) T.isinstance T.known (fun c hc C hC => T.kU c hc C hC _))) (ve_one (ve_chain op_le op_lt os_le os_lt (ve_int pe_int) (ve_var (pv 2)) (ve_var (pv 1)))))))))) va_nil))))))))
  (vb_one (vs_ret (ve_bl pe_bl)))
  vb_nil)
  (vb_one (vs_ret (ve_cmp (kop_eqD rfl hr.units) os_eq (vo_of (ve_fz (vf_ct (kcall_list_of rfl) csf_list (by rfl) T.list (by decide +kernel) (va_cons (vo_var (pv 0)) va_nil)))) (vo_of (ve_fz (vf_cb (cr_sortedP3 rfl rfl rfl) csf_sortedP (by rfl) T.sorted (by decide +kernel) (va_cons (vo_of (ve_ct (kcr_set rfl rfl rfl) cs_set (by rfl) T.set (by decide +kernel) (va_cons (vo_var (pv 0)) va_nil))) va_nil)))) (nomark _))))) h)
theorem ok__law_is {f : Addr} {fd : FuncData} (F : Fun K "_law_is" "_law_is" s__law_is f fd) (T : Txt K mg) (D__law_is_lot : Df P w K mg base 1 "_law_is_lot" ["value", "most"] (spV (gxOf K w mg) W__law_is_lot)) : FnOk P w K mg base CX0 2 f fd ["states", "rows", "houses", "f", "is_signed", "parts"] (spV (gxOf K w mg) W__law_is) := by
  refine F.ok sc__law_is (fun vs H Q E h => spV_len (fun h => h.1) h) (fun cdv A outer s H vs Q E hr h => okV (N := N__law_is) rfl
  (vb_cons (vs_asg (ve_var (pv 5)) (vg_tup rfl rfl (vgs_cons (vg_name (i := 6) sc__law_is.nd rfl (by first | exact Or.inl rfl | exact Or.inr rfl)) (vgs_cons (vg_name (i := 7) sc__law_is.nd rfl (by first | exact Or.inl rfl | exact Or.inr rfl)) (vgs_cons (vg_name (i := 8) sc__law_is.nd rfl (by first | exact Or.inl rfl | exact Or.inr rfl)) (vgs_cons (vg_name (i := 9) sc__law_is.nd rfl (by first | exact Or.inl rfl | exact Or.inr rfl)) (vgs_cons (vg_name (i := 10) sc__law_is.nd rfl (by first | exact Or.inl rfl | exact Or.inr rfl)) vgs_nil)))))))
  (vb_cons (vs_if (VW.vt (vw_or (vt_not (vt_tru rfl (vo_of (ve_isiB (cs := ["FooledRuns", "Keeping"]) (U := .tuple) rfl (vo_var (pv 10)) (pe_ty "tuple" (by rfl) T.tuple) (by rfl) T.isinstance T.known (fun c hc C hC => T.kU c hc C hC _))))) (vw_or1 (vt_cmp (kop_neD rfl hr.units) os_ne (vo_of (ve_cb (cr_lenP rfl) cs_len (by rfl) T.len (by decide +kernel) (va_cons (vo_var (pv 10)) va_nil))) (vo_of (ve_cb (cr_lenP rfl) cs_len (by rfl) T.len (by decide +kernel) (va_cons (vo_var (pv 2)) va_nil))) (nomark _)))))
  (vb_one (vs_ret (ve_bl pe_bl)))
  vb_nil)
  (vb_cons (vs_for PassesOwn.never rfl (vi_seq rfl (vo_var (pv 10))) (vg_name (i := 11) sc__law_is.nd rfl (by first | exact Or.inl rfl | exact Or.inr rfl))
  (vb_one (vs_if (VW.vt (vw_and (vt_cmp op_notN os_notN (vo_var (pv 11)) (vo_of (ve_non pe_non)) (nomark _)) (vw_and1 (VW.vt (vw_or (vt_not (vt_tru rfl (vo_of (ve_isiB (cs := ["FooledRuns", "Keeping"]) (U := .int) rfl (vo_var (pv 11)) (pe_ty "int" (by rfl) T.int) (by rfl) T.isinstance T.known (fun c hc C hC => T.kU c hc C hC _))))) (vw_or (vt_tru rfl (vo_of (ve_isiB (cs := ["FooledRuns", "Keeping"]) (U := .bool) rfl (vo_var (pv 11)) (pe_ty "bool" (by rfl) T.bool) (by rfl) T.isinstance T.known (fun c hc C hC => T.kU c hc C hC _)))) (vw_or1 (vt_not (vt_chain op_le op_lt os_le os_lt (ve_int pe_int) (ve_var (pv 11)) (ve_var (pv 0)))))))))))
  (vb_one (vs_ret (ve_bl pe_bl)))
  vb_nil)))
  (vb_cons (vs_for PassesOwn.never rfl (vi_seq rfl (vo_of (ve_tup (va_cons (vo_of (ve_tup (va_cons (vo_of (ve_var (pv 6))) (va_cons (vo_of (ve_var (pv 8))) va_nil)))) (va_cons (vo_of (ve_tup (va_cons (vo_of (ve_var (pv 7))) (va_cons (vo_of (ve_var (pv 9))) va_nil)))) va_nil))))) (vg_tup rfl rfl (vgs_cons (vg_name (i := 12) sc__law_is.nd rfl (by first | exact Or.inl rfl | exact Or.inr rfl)) (vgs_cons (vg_name (i := 13) sc__law_is.nd rfl (by first | exact Or.inl rfl | exact Or.inr rfl)) vgs_nil)))
  (vb_cons (vs_if (VW.vt (vw_or (vt_not (vt_tru rfl (vo_of (ve_isiB (cs := ["FooledRuns", "Keeping"]) (U := .int) rfl (vo_var (pv 12)) (pe_ty "int" (by rfl) T.int) (by rfl) T.isinstance T.known (fun c hc C hC => T.kU c hc C hC _))))) (vw_or (vt_tru rfl (vo_of (ve_isiB (cs := ["FooledRuns", "Keeping"]) (U := .bool) rfl (vo_var (pv 12)) (pe_ty "bool" (by rfl) T.bool) (by rfl) T.isinstance T.known (fun c hc C hC => T.kU c hc C hC _)))) (vw_or1 (vt_not (vt_chain op_le op_lt os_le os_lt (ve_int pe_int) (ve_var (pv 12)) (ve_cb (cr_lenP rfl) cs_len (by rfl) T.len (by decide +kernel) (va_cons (vo_var (pv 1)) va_nil))))))))
  (vb_one (vs_ret (ve_bl pe_bl)))
  vb_nil)
  (vb_cons (vs_if (VW.vt (vw_or (vt_not (vt_tru rfl (vo_of (ve_call D__law_is_lot.ok (hr.mono (by first | decide | omega)) (by rfl) D__law_is_lot.m D__law_is_lot.kp D__law_is_lot.b .nil (fun _ _ => .nil) pass0 (va_cons (vo_var (pv 13)) (va_cons (vo_of (ve_cb (cr_lenP rfl) cs_len (by rfl) T.len (by decide +kernel) (va_cons (vo_of (ve_ix rfl (vo_var (pv 1)) (vo_of (ve_int pe_int)) (fun _ _ => rfl))) va_nil))) va_nil)))))) (vw_or (vt_cmp op_gt os_gt (vo_of (ve_cb (cr_lenP rfl) cs_len (by rfl) T.len (by decide +kernel) (va_cons (vo_var (pv 13)) va_nil))) (vo_var (pv 3)) (nomark _)) (vw_or1 (vt_not (vt_tru rfl (vo_of (ve_cb (kcr_all rfl rfl) cs_all (by rfl) T.all (by decide +kernel) (va_cons (vo_of (ve_fz (vf_lc (own := [("house", 16)]) rfl sc__law_is.nd (vi_seq rfl (vo_var (pv 13))) (blkOk_by (own := [("house", 16)]) (N := N__law_is) (sc := defScope s__law_is) (by decide +kernel)) (fun _ _ _ _ _ => (vg_name (i := 16) sc__law_is.nd rfl (by first | exact Or.inl rfl | exact Or.inr rfl))) (fun _ _ _ _ _ => vts_nil) (fun _ _ _ _ _ => (ve_cmp (op_inP rfl (hu_of hr)) os_inP (vo_var (pv 16)) (vo_var (pv 2)) (by rfl)))))) va_nil)))))))))
  (vb_one (vs_ret (ve_bl pe_bl)))
  vb_nil)
  (vb_one (vs_for PassesOwn.never rfl (vi_rg1 (by rfl) T.range (va_cons (vo_of (ve_cb (cr_lenP rfl) cs_len (by rfl) T.len (by decide +kernel) (va_cons (vo_var (pv 2)) va_nil))) va_nil)) (vg_name (i := 14) sc__law_is.nd rfl (by first | exact Or.inl rfl | exact Or.inr rfl))
  (vb_cons (vs_set (i := 15) sc__law_is.nd rfl (by first | exact Or.inl rfl | exact Or.inr rfl) (ve_cmp (kop_eqD rfl hr.units) os_eq (vo_of (ve_ix rfl (vo_var (pv 10)) (vo_var (pv 14)) (fun _ _ => rfl))) (vo_of (ve_ix rfl (vo_of (ve_ix rfl (vo_var (pv 1)) (vo_var (pv 12)) (fun _ _ => rfl))) (vo_of (ve_ix rfl (vo_var (pv 2)) (vo_var (pv 14)) (fun _ _ => rfl))) (fun _ _ => rfl))) (nomark _)))
  (vb_one (vs_if (VW.vt (vw_and (vt_not (vt_tru rfl (vo_var (pv 15)))) (vw_and1 (VW.vt (vw_or (vt_cmp (op_notInP rfl (hu_of hr)) os_inP (vo_of (ve_ix rfl (vo_var (pv 2)) (vo_var (pv 14)) (fun _ _ => rfl))) (vo_var (pv 13)) (by rfl)) (vw_or1 (VW.vt (vw_and (vt_tru rfl (vo_var (pv 4))) (vw_and1 (vt_cmp op_notN os_notN (vo_of (ve_ix rfl (vo_var (pv 10)) (vo_var (pv 14)) (fun _ _ => rfl))) (vo_of (ve_non pe_non)) (nomark _)))))))))))
  (vb_one (vs_ret (ve_bl pe_bl)))
  vb_nil))))))))
  (vb_one (vs_ret (ve_cmp (kop_neD rfl hr.units) os_ne (vo_var (pv 6)) (vo_var (pv 7)) (nomark _)))))))) h)
theorem ok__law_bent {f : Addr} {fd : FuncData} (F : Fun K "_law_bent" "_law_bent" s__law_bent f fd) (T : Txt K mg) (D__law_pick : Df P w K mg base 2 "_law_pick" ["heap", "some"] (spV (gxOf K w mg) W__law_pick)) (DP__law_pick : Df P w K mg base 2 "_law_pick" ["heap", "some"] (spP (gxOf K w mg) WP__law_pick)) (D__law_draw : Df P w K mg base 1 "_law_draw" ["heap", "many"] (spV (gxOf K w mg) W__law_draw)) : FnOk P w K mg base CX0 3 f fd ["heap", "states", "rows", "houses", "parts"] (spV (gxOf K w mg) W__law_bent) := by
  refine F.ok sc__law_bent (fun vs H Q E h => spV_len (fun h => h.1) h) (fun cdv A outer s H vs Q E hr h => okV (N := N__law_bent) rfl
  (vb_cons (vs_asg (ve_var (pv 4)) (vg_tup rfl rfl (vgs_cons (vg_name (i := 5) sc__law_bent.nd rfl (by first | exact Or.inl rfl | exact Or.inr rfl)) (vgs_cons (vg_name (i := 6) sc__law_bent.nd rfl (by first | exact Or.inl rfl | exact Or.inr rfl)) (vgs_cons (vg_name (i := 7) sc__law_bent.nd rfl (by first | exact Or.inl rfl | exact Or.inr rfl)) (vgs_cons (vg_name (i := 8) sc__law_bent.nd rfl (by first | exact Or.inl rfl | exact Or.inr rfl)) (vgs_cons (vg_name (i := 9) sc__law_bent.nd rfl (by first | exact Or.inl rfl | exact Or.inr rfl)) vgs_nil)))))))
  (vb_cons (vs_par3 (i := 10) (j := 11) (l := 12) rfl sc__law_bent.nd rfl rfl rfl  (by decide) (by decide) (by decide)  rfl rfl rfl  (vqs_cons (vq_v (ve_call D__law_draw.ok (hr.mono (by first | decide | omega)) (by rfl) D__law_draw.m D__law_draw.kp D__law_draw.b .nil (fun _ _ => .nil) pass0 (va_cons (vo_var (pv 0)) (va_cons (vo_of (ve_cb (cr_lenP rfl) cs_len (by rfl) T.len (by decide +kernel) (va_cons (vo_var (pv 2)) va_nil))) va_nil)))) (vqs_cons (vq_v (ve_call D__law_draw.ok (hr.mono (by first | decide | omega)) (by rfl) D__law_draw.m D__law_draw.kp D__law_draw.b .nil (fun _ _ => .nil) pass0 (va_cons (vo_var (pv 0)) (va_cons (vo_of (ve_cb (cr_lenP rfl) cs_len (by rfl) T.len (by decide +kernel) (va_cons (vo_of (ve_ix rfl (vo_var (pv 2)) (vo_of (ve_int pe_int)) (fun _ _ => rfl))) va_nil))) va_nil)))) (vqs_cons (vq_v (ve_call D__law_draw.ok (hr.mono (by first | decide | omega)) (by rfl) D__law_draw.m D__law_draw.kp D__law_draw.b .nil (fun _ _ => .nil) pass0 (va_cons (vo_var (pv 0)) (va_cons (vo_var (pv 1)) va_nil)))) vqs_nil))) (by rfl))
  (vb_cons (vs_setF (i := 13) sc__law_bent.nd rfl (by first | exact Or.inl rfl | exact Or.inr rfl) (vf_lst (va_cons (vo_of (ve_tup (va_cons (vo_of (ve_var (pv 10))) (va_cons (vo_of (ve_var (pv 6))) (va_cons (vo_of (ve_var (pv 7))) (va_cons (vo_of (ve_var (pv 8))) (va_cons (vo_of (ve_var (pv 9))) va_nil))))))) (va_cons (vo_of (ve_tup (va_cons (vo_of (ve_var (pv 5))) (va_cons (vo_of (ve_var (pv 10))) (va_cons (vo_of (ve_var (pv 7))) (va_cons (vo_of (ve_var (pv 8))) (va_cons (vo_of (ve_var (pv 9))) va_nil))))))) (va_cons (vo_of (ve_tup (va_cons (vo_of (ve_var (pv 5))) (va_cons (vo_of (ve_var (pv 5))) (va_cons (vo_of (ve_var (pv 7))) (va_cons (vo_of (ve_var (pv 7))) (va_cons (vo_of (ve_var (pv 9))) va_nil))))))) (va_cons (vo_of (ve_tup (va_cons (vo_of (ve_var (pv 6))) (va_cons (vo_of (ve_var (pv 5))) (va_cons (vo_of (ve_var (pv 8))) (va_cons (vo_of (ve_var (pv 7))) (va_cons (vo_of (ve_var (pv 9))) va_nil))))))) va_nil))))))
  (vb_cons (vs_setF (i := 13) sc__law_bent.nd rfl (by first | exact Or.inl rfl | exact Or.inr rfl) (vf_op op_cat os_cat (vo_var (pv 13)) (vo_of (ve_fz (vf_lst (va_cons (vo_of (ve_tup (va_cons (vo_of (ve_var (pv 6))) (va_cons (vo_of (ve_var (pv 5))) (va_cons (vo_of (ve_var (pv 7))) (va_cons (vo_of (ve_var (pv 8))) (va_cons (vo_of (ve_var (pv 9))) va_nil))))))) (va_cons (vo_of (ve_tup (va_cons (vo_of (ve_var (pv 5))) (va_cons (vo_of (ve_var (pv 6))) (va_cons (vo_of (ve_var (pv 8))) (va_cons (vo_of (ve_var (pv 7))) (va_cons (vo_of (ve_var (pv 9))) va_nil))))))) (va_cons (vo_of (ve_tup (va_cons (vo_of (ve_var (pv 5))) (va_cons (vo_of (ve_var (pv 6))) (va_cons (vo_of (ve_sl rfl (vo_var (pv 7)) (vp_some (ve_int pe_int)) vp_none)) (va_cons (vo_of (ve_var (pv 8))) (va_cons (vo_of (ve_var (pv 9))) va_nil))))))) (va_cons (vo_of (ve_tup (va_cons (vo_of (ve_var (pv 5))) (va_cons (vo_of (ve_var (pv 6))) (va_cons (vo_of (ve_var (pv 7))) (va_cons (vo_of (ve_sl rfl (vo_var (pv 8)) vp_none (vp_some (ve_neg (ve_int pe_int))))) (va_cons (vo_of (ve_var (pv 9))) va_nil))))))) va_nil)))))))))
  (vb_cons (vs_setF (i := 13) sc__law_bent.nd rfl (by first | exact Or.inl rfl | exact Or.inr rfl) (vf_op op_cat os_cat (vo_var (pv 13)) (vo_of (ve_fz (vf_lst (va_cons (vo_of (ve_tup (va_cons (vo_of (ve_var (pv 5))) (va_cons (vo_of (ve_var (pv 6))) (va_cons (vo_of (ve_ct (kcall_tuple_of rfl) cs_tuple (by rfl) T.tuple (by decide +kernel) (va_cons (vo_of (ve_fz (vf_cb (cr_sortedP3 rfl rfl rfl) csf_sortedP (by rfl) T.sorted (by decide +kernel) (va_cons (vo_of (ve_ct (kcr_set rfl rfl rfl) cs_set (by rfl) T.set (by decide +kernel) (va_cons (vo_of (ve_op (op_addP rfl) os_add (vo_var (pv 7)) (vo_of (ve_tup (va_cons (vo_of (ve_var (pv 11))) va_nil))))) va_nil))) va_nil)))) va_nil))) (va_cons (vo_of (ve_var (pv 8))) (va_cons (vo_of (ve_var (pv 9))) va_nil))))))) (va_cons (vo_of (ve_tup (va_cons (vo_of (ve_var (pv 5))) (va_cons (vo_of (ve_var (pv 6))) (va_cons (vo_of (ve_op (op_addP rfl) os_add (vo_var (pv 7)) (vo_of (ve_tup (va_cons (vo_of (ve_var (pv 11))) va_nil))))) (va_cons (vo_of (ve_var (pv 8))) (va_cons (vo_of (ve_var (pv 9))) va_nil))))))) (va_cons (vo_of (ve_tup (va_cons (vo_of (ve_var (pv 5))) (va_cons (vo_of (ve_var (pv 6))) (va_cons (vo_of (ve_fz (vf_ct (kcall_list_of rfl) csf_list (by rfl) T.list (by decide +kernel) (va_cons (vo_var (pv 7)) va_nil)))) (va_cons (vo_of (ve_var (pv 8))) (va_cons (vo_of (ve_var (pv 9))) va_nil))))))) va_nil))))))))
  (vb_cons (vs_setF (i := 13) sc__law_bent.nd rfl (by first | exact Or.inl rfl | exact Or.inr rfl) (vf_op op_cat os_cat (vo_var (pv 13)) (vo_of (ve_fz (vf_lst (va_cons (vo_of (ve_tup (va_cons (vo_of (ve_var (pv 5))) (va_cons (vo_of (ve_var (pv 6))) (va_cons (vo_of (ve_var (pv 7))) (va_cons (vo_of (ve_non pe_non)) (va_cons (vo_of (ve_var (pv 9))) va_nil))))))) (va_cons (vo_of (ve_tup (va_cons (vo_of (ve_var (pv 5))) (va_cons (vo_of (ve_var (pv 6))) (va_cons (vo_of (ve_var (pv 7))) (va_cons (vo_of (ve_var (pv 8))) (va_cons (vo_of (ve_fz (vf_ct (kcall_list_of rfl) csf_list (by rfl) T.list (by decide +kernel) (va_cons (vo_var (pv 9)) va_nil)))) va_nil))))))) (va_cons (vo_of (ve_tup (va_cons (vo_of (ve_var (pv 5))) (va_cons (vo_of (ve_var (pv 6))) (va_cons (vo_of (ve_var (pv 7))) (va_cons (vo_of (ve_var (pv 8))) (va_cons (vo_of (ve_non pe_non)) va_nil))))))) (va_cons (vo_of (ve_tup (va_cons (vo_of (ve_cmp (kop_eqD rfl hr.units) os_eq (vo_var (pv 5)) (vo_of (ve_int pe_int)) (nomark _))) (va_cons (vo_of (ve_var (pv 6))) (va_cons (vo_of (ve_var (pv 7))) (va_cons (vo_of (ve_var (pv 8))) (va_cons (vo_of (ve_var (pv 9))) va_nil))))))) va_nil)))))))))
  (vb_cons (vs_setF (i := 13) sc__law_bent.nd rfl (by first | exact Or.inl rfl | exact Or.inr rfl) (vf_op op_cat os_cat (vo_var (pv 13)) (vo_of (ve_fz (vf_lst (va_cons (vo_of (ve_tup (va_cons (vo_of (ve_var (pv 5))) (va_cons (vo_of (ve_cb (cr_lenP rfl) cs_len (by rfl) T.len (by decide +kernel) (va_cons (vo_var (pv 2)) va_nil))) (va_cons (vo_of (ve_var (pv 7))) (va_cons (vo_of (ve_var (pv 8))) (va_cons (vo_of (ve_var (pv 9))) va_nil))))))) (va_cons (vo_of (ve_tup (va_cons (vo_of (ve_var (pv 5))) (va_cons (vo_of (ve_op op_sub os_sub (vo_of (ve_int pe_int)) (vo_of (ve_int pe_int)))) (va_cons (vo_of (ve_var (pv 7))) (va_cons (vo_of (ve_var (pv 8))) (va_cons (vo_of (ve_var (pv 9))) va_nil))))))) (va_cons (vo_of (ve_tup (va_cons (vo_of (ve_non pe_non)) (va_cons (vo_of (ve_var (pv 6))) (va_cons (vo_of (ve_var (pv 7))) (va_cons (vo_of (ve_var (pv 8))) (va_cons (vo_of (ve_var (pv 9))) va_nil))))))) (va_cons (vo_of (ve_tup (va_cons (vo_of (ve_var (pv 5))) (va_cons (vo_of (ve_ct (kcr_str) cs_str (by rfl) T.str (by decide +kernel) (va_cons (vo_var (pv 6)) va_nil))) (va_cons (vo_of (ve_var (pv 7))) (va_cons (vo_of (ve_var (pv 8))) (va_cons (vo_of (ve_var (pv 9))) va_nil))))))) (va_cons (vo_of (ve_var (pv 4))) va_nil))))))))))
  (vb_cons (vs_if (vt_cmp (kop_neD rfl hr.units) os_ne (vo_var (pv 9)) (vo_of (ve_tup va_nil)) (nomark _))
  (vb_cons (vs_set (i := 14) sc__law_bent.nd rfl (by first | exact Or.inl rfl | exact Or.inr rfl) (ve_call D__law_draw.ok (hr.mono (by first | decide | omega)) (by rfl) D__law_draw.m D__law_draw.kp D__law_draw.b .nil (fun _ _ => .nil) pass0 (va_cons (vo_var (pv 0)) (va_cons (vo_of (ve_cb (cr_lenP rfl) cs_len (by rfl) T.len (by decide +kernel) (va_cons (vo_var (pv 9)) va_nil))) va_nil))))
  (vb_cons (vs_for PassesOwn.never rfl (vi_seq rfl (vo_of (ve_fz (vf_lst (va_cons (vo_of (ve_var (pv 12))) (va_cons (vo_of (ve_non pe_non)) (va_cons (vo_of (ve_var (pv 1))) (va_cons (vo_of (ve_str pe_str)) (va_cons (vo_of (ve_bl pe_bl)) (va_cons (vo_of (ve_ix rfl (vo_of (ve_ix rfl (vo_var (pv 2)) (vo_var (pv 5)) (fun _ _ => rfl))) (vo_of (ve_ix rfl (vo_var (pv 3)) (vo_var (pv 14)) (fun _ _ => rfl))) (fun _ _ => rfl))) (va_cons (vo_of (ve_ix rfl (vo_of (ve_ix rfl (vo_var (pv 2)) (vo_var (pv 6)) (fun _ _ => rfl))) (vo_of (ve_ix rfl (vo_var (pv 3)) (vo_var (pv 14)) (fun _ _ => rfl))) (fun _ _ => rfl))) (va_cons (vo_of (ve_ix rfl (vo_of (ve_ix rfl (vo_var (pv 2)) (vo_var (pv 10)) (fun _ _ => rfl))) (vo_of (ve_ix rfl (vo_var (pv 3)) (vo_var (pv 14)) (fun _ _ => rfl))) (fun _ _ => rfl))) va_nil)))))))))))) (vg_name (i := 15) sc__law_bent.nd rfl (by first | exact Or.inl rfl | exact Or.inr rfl))
  (vb_one (vs_expr (ve_app rfl (pv 13) (ve_tup (va_cons (vo_of (ve_var (pv 5))) (va_cons (vo_of (ve_var (pv 6))) (va_cons (vo_of (ve_var (pv 7))) (va_cons (vo_of (ve_var (pv 8))) (va_cons (vo_of (ve_op (op_addP rfl) os_add (vo_of (ve_op (op_addP rfl) os_add (vo_of (ve_sl rfl (vo_var (pv 9)) vp_none (vp_some (ve_var (pv 14))))) (vo_of (ve_tup (va_cons (vo_of (ve_var (pv 15))) va_nil))))) (vo_of (ve_sl rfl (vo_var (pv 9)) (vp_some (ve_op (op_addP rfl) os_add (vo_var (pv 14)) (vo_of (ve_int pe_int)))) vp_none)))) va_nil))))))))))
  (vb_one (vs_setF (i := 13) sc__law_bent.nd rfl (by first | exact Or.inl rfl | exact Or.inr rfl) (vf_op op_cat os_cat (vo_var (pv 13)) (vo_of (ve_fz (vf_lst (va_cons (vo_of (ve_tup (va_cons (vo_of (ve_var (pv 5))) (va_cons (vo_of (ve_var (pv 6))) (va_cons (vo_of (ve_var (pv 7))) (va_cons (vo_of (ve_var (pv 8))) (va_cons (vo_of (ve_sl rfl (vo_var (pv 9)) (vp_some (ve_int pe_int)) vp_none)) va_nil))))))) (va_cons (vo_of (ve_tup (va_cons (vo_of (ve_var (pv 5))) (va_cons (vo_of (ve_var (pv 6))) (va_cons (vo_of (ve_var (pv 7))) (va_cons (vo_of (ve_var (pv 8))) (va_cons (vo_of (ve_op (op_addP rfl) os_add (vo_var (pv 9)) (vo_of (ve_tup (va_cons (vo_of (ve_var (pv 12))) va_nil))))) va_nil))))))) va_nil))))))))))
  vb_nil)
  (vb_one (vs_ret (ve_callP DP__law_pick.ok (hr.mono (by first | decide | omega)) (by rfl) DP__law_pick.m DP__law_pick.kp DP__law_pick.b pass0 (va_cons (vo_var (pv 0)) (va_cons (vo_var (pv 13)) va_nil))))))))))))) h)
theorem kb_are_fooled_runs_4_3_2_1_0 {f : Addr} {fd : FuncData} (F : Fun K "are_fooled_runs" "are_fooled_runs" s_are_fooled_runs f fd) : KBinds K fd ["keeping", "houses", "f", "is_signed", "value"] ["value", "is_signed", "f", "houses", "keeping"] (reoK [4, 3, 2, 1, 0]) (reoK [4, 3, 2, 1, 0]) := by
  obtain ⟨oc, od, kV, doc, pm, an, cdv, ct, osl, rfl, lk, hcd⟩ := F.ex
  exact ⟨fun s us ws _ hl => by
    obtain ⟨rfl, h2⟩ := reoK_len hl
    exact match ws, h2 with | [_, _, _, _, _], _ => .of_eq rfl, fun h1 h2 => reoK_rel h1 h2⟩
theorem ok__law_right {f : Addr} {fd : FuncData} (F : Fun K "_law_right" "_law_right" s__law_right f fd) (T : Txt K mg) (D__law_rows : Df P w K mg base 3 "_law_rows" ["heap", "houses"] (spV (gxOf K w mg) W__law_rows)) (D_readings : Df P w K mg base 2 "readings" ["keeping", "houses", "shown", "f", "is_signed"] (spV (gxOf K w mg) W_readings)) (D__law_pick : Df P w K mg base 2 "_law_pick" ["heap", "some"] (spV (gxOf K w mg) W__law_pick)) (D__law_least : Df P w K mg base 1 "_law_least" ["rows", "houses"] (spV (gxOf K w mg) W__law_least)) (D_fooled_runs : Df P w K mg base 3 "fooled_runs" ["keeping", "houses", "f", "is_signed"] (spV (gxOf K w mg) W_fooled_runs)) (D__law_like : Df P w K mg base 3 "_law_like" ["told", "due"] (spV (gxOf K w mg) W__law_like)) (D__law_bent : Df P w K mg base 3 "_law_bent" ["heap", "states", "rows", "houses", "parts"] (spV (gxOf K w mg) W__law_bent)) (D_are_fooled_runs : Df P w K mg base 4 "are_fooled_runs" ["keeping", "houses", "f", "is_signed", "value"] (spV (gxOf K w mg) W_are_fooled_runs)) (D__law_draw : Df P w K mg base 1 "_law_draw" ["heap", "many"] (spV (gxOf K w mg) W__law_draw)) (D_is_readable : Df P w K mg base 4 "is_readable" ["keeping", "houses", "f", "is_signed"] (spV (gxOf K w mg) W_is_readable)) (D__law_is : Df P w K mg base 2 "_law_is" ["states", "rows", "houses", "f", "is_signed", "parts"] (spV (gxOf K w mg) W__law_is)) (D_only_reading : Df P w K mg base 3 "only_reading" ["keeping", "houses", "shown", "f", "is_signed"] (spV (gxOf K w mg) W_only_reading)) (KB_are_fooled_runs_4_3_2_1_0 : KBinds K D_are_fooled_runs.fd ["keeping", "houses", "f", "is_signed", "value"] ["value", "is_signed", "f", "houses", "keeping"] (reoK [4, 3, 2, 1, 0]) (reoK [4, 3, 2, 1, 0])) {fdI_Keeping : FuncData} (GI_Keeping : FnOk P w K mg base CX0 4 T.fI_Keeping fdI_Keeping ["self", "states", "rows"] (spN (gxOf K w mg) "Keeping" W_Keeping_init)) (bI_Keeping : Binds K fdI_Keeping ["self", "states", "rows"] []) {fdI_FooledRuns : FuncData} (GI_FooledRuns : FnOk P w K mg base CX0 1 T.fI_FooledRuns fdI_FooledRuns ["self", "one", "other", "liars", "others", "shown"] (spN (gxOf K w mg) "FooledRuns" W_FooledRuns_init)) (bI_FooledRuns : Binds K fdI_FooledRuns ["self", "one", "other", "liars", "others", "shown"] []) : FnOk P w K mg base CX0 6 f fd ["heap", "houses"] (spV (gxOf K w mg) W__law_right) := by
  refine F.ok sc__law_right (fun vs H Q E h => spV_len (fun h => h.1) h) (fun cdv A outer s H vs Q E hr h => okV (N := N__law_right) rfl
  (vb_cons (vs_asg (ve_call D__law_rows.ok (hr.mono (by first | decide | omega)) (by rfl) D__law_rows.m D__law_rows.kp D__law_rows.b .nil (fun _ _ => .nil) pass0 (va_cons (vo_var (pv 0)) (va_cons (vo_var (pv 1)) va_nil))) (vg_tup rfl rfl (vgs_cons (vg_name (i := 2) sc__law_right.nd rfl (by first | exact Or.inl rfl | exact Or.inr rfl)) (vgs_cons (vg_name (i := 3) sc__law_right.nd rfl (by first | exact Or.inl rfl | exact Or.inr rfl)) vgs_nil))))
  (vb_cons (vs_par2 (i := 4) (j := 5) rfl sc__law_right.nd rfl rfl  (by decide)  rfl rfl  (vqs_cons (vq_v (ve_make rfl T.m_Keeping T.cl_Keeping T.mk_Keeping GI_Keeping (hr.mono (by first | decide | omega)) (by rfl) T.m_Keeping bI_Keeping .nil (fun _ _ => .nil) pass0 (va_cons (vo_of (ve_var (pv 2))) (va_cons (vo_of (ve_var (pv 3))) va_nil)))) (vqs_cons (vq_v (ve_ct (kcall_tuple_of rfl) cs_tuple (by rfl) T.tuple (by decide +kernel) (va_cons (vo_of (ve_fz (vf_lc (own := [("house", 19)]) rfl sc__law_right.nd (vi_rg1 (by rfl) T.range (va_cons (vo_var (pv 1)) va_nil)) (blkOk_by (own := [("house", 19)]) (N := N__law_right) (sc := defScope s__law_right) (by decide +kernel)) (fun _ _ _ _ _ => (vg_name (i := 19) sc__law_right.nd rfl (by first | exact Or.inl rfl | exact Or.inr rfl))) (fun _ _ _ _ _ => (vts_one (vt_cmp op_gt os_gt (vo_of (ve_call D__law_draw.ok (hr.mono (by first | decide | omega)) (by rfl) D__law_draw.m D__law_draw.kp D__law_draw.b .nil (fun _ _ => .nil) pass0 (va_cons (vo_var (pv 0)) (va_cons (vo_of (ve_int pe_int)) va_nil)))) (vo_of (ve_int pe_int)) (nomark _)))) (fun _ _ _ _ _ => (ve_var (pv 19)))))) va_nil))) vqs_nil)) (by rfl))
  (vb_cons (vs_par2 (i := 6) (j := 7) rfl sc__law_right.nd rfl rfl  (by decide)  rfl rfl  (vqs_cons (vq_v (ve_call D__law_least.ok (hr.mono (by first | decide | omega)) (by rfl) D__law_least.m D__law_least.kp D__law_least.b .nil (fun _ _ => .nil) pass0 (va_cons (vo_var (pv 3)) (va_cons (vo_var (pv 5)) va_nil)))) (vqs_cons (vq_v (ve_cmp (kop_eqD rfl hr.units) os_eq (vo_of (ve_call D__law_draw.ok (hr.mono (by first | decide | omega)) (by rfl) D__law_draw.m D__law_draw.kp D__law_draw.b .nil (fun _ _ => .nil) pass0 (va_cons (vo_var (pv 0)) (va_cons (vo_of (ve_int pe_int)) va_nil)))) (vo_of (ve_int pe_int)) (nomark _))) vqs_nil)) (by rfl))
  (vb_cons (vs_set (i := 8) sc__law_right.nd rfl (by first | exact Or.inl rfl | exact Or.inr rfl) (ve_ifE (vt_cmp op_notN os_notN (vo_var (pv 6)) (vo_of (ve_non pe_non)) (nomark _)) (ve_var (pv 6)) (ve_int pe_int)))
  (vb_cons (vs_set (i := 9) sc__law_right.nd rfl (by first | exact Or.inl rfl | exact Or.inr rfl) (ve_cb (cr_maxP rfl rfl (room65 hr)) cs_max (by rfl) T.max (by decide +kernel) (va_cons (vo_of (ve_int pe_int)) (va_cons (vo_of (ve_call D__law_pick.ok (hr.mono (by first | decide | omega)) (by rfl) D__law_pick.m D__law_pick.kp D__law_pick.b .nil (fun _ _ => .nil) pass0 (va_cons (vo_var (pv 0)) (va_cons (vo_of (ve_fz (vf_lst (va_cons (vo_of (ve_var (pv 8))) (va_cons (vo_of (ve_op op_sub os_sub (vo_var (pv 8)) (vo_of (ve_int pe_int)))) (va_cons (vo_of (ve_op op_fdivW os_div (vo_of (ve_op (op_addP rfl) os_add (vo_var (pv 8)) (vo_of (ve_int pe_int)))) (vo_of (ve_int pe_int)))) (va_cons (vo_of (ve_op op_fdivW os_div (vo_var (pv 8)) (vo_of (ve_int pe_int)))) (va_cons (vo_of (ve_op op_fdivW os_div (vo_of (ve_op op_sub os_sub (vo_var (pv 8)) (vo_of (ve_int pe_int)))) (vo_of (ve_int pe_int)))) (va_cons (vo_of (ve_call D__law_draw.ok (hr.mono (by first | decide | omega)) (by rfl) D__law_draw.m D__law_draw.kp D__law_draw.b .nil (fun _ _ => .nil) pass0 (va_cons (vo_var (pv 0)) (va_cons (vo_of (ve_int pe_int)) va_nil)))) va_nil))))))))) va_nil)))) va_nil))))
  (vb_cons (vs_par2 (i := 10) (j := 11) rfl sc__law_right.nd rfl rfl  (by decide)  rfl rfl  (vqs_cons (vq_v (ve_call D_fooled_runs.ok (hr.mono (by first | decide | omega)) (by rfl) D_fooled_runs.m D_fooled_runs.kp D_fooled_runs.b .nil (fun _ _ => .nil) pass0 (va_cons (vo_var (pv 4)) (va_cons (vo_var (pv 5)) (va_cons (vo_var (pv 9)) (va_cons (vo_var (pv 7)) va_nil)))))) (vqs_cons (vq_v (ve_and (ve_cmp op_notN os_notN (vo_var (pv 6)) (vo_of (ve_non pe_non)) (nomark _)) (ve_one (ve_cmp op_le os_le (vo_var (pv 6)) (vo_of (ve_ifE (vt_tru rfl (vo_var (pv 7))) (ve_var (pv 9)) (ve_op (op_mulP rfl) os_mul (vo_of (ve_int pe_int)) (vo_var (pv 9))))) (nomark _))))) vqs_nil)) (by rfl))
  (vb_cons (vs_if (vt_not (vt_tru rfl (vo_of (ve_call D__law_like.ok (hr.mono (by first | decide | omega)) (by rfl) D__law_like.m D__law_like.kp D__law_like.b .nil (fun _ _ => .nil) pass0 (va_cons (vo_of (ve_call D_is_readable.ok (hr.mono (by first | decide | omega)) (by rfl) D_is_readable.m D_is_readable.kp D_is_readable.b .nil (fun _ _ => .nil) pass0 (va_cons (vo_var (pv 4)) (va_cons (vo_var (pv 5)) (va_cons (vo_var (pv 9)) (va_cons (vo_var (pv 7)) va_nil)))))) (va_cons (vo_of (ve_not (ve_var (pv 11)))) va_nil))))))
  (vb_one (vs_ret (ve_bl pe_bl)))
  vb_nil)
  (vb_cons (vs_if (vt_not (vt_tru rfl (vo_var (pv 11))))
  (vb_cons (vs_set (i := 12) sc__law_right.nd rfl (by first | exact Or.inl rfl | exact Or.inr rfl) (ve_call D__law_pick.ok (hr.mono (by first | decide | omega)) (by rfl) D__law_pick.m D__law_pick.kp D__law_pick.b .nil (fun _ _ => .nil) pass0 (va_cons (vo_var (pv 0)) (va_cons (vo_of (ve_fz (vf_lst (va_cons (vo_of (ve_non pe_non)) (va_cons (vo_of (ve_int pe_int)) (va_cons (vo_of (ve_tup va_nil)) (va_cons (vo_of (ve_var (pv 4))) (va_cons (vo_of (ve_make rfl T.m_FooledRuns T.cl_FooledRuns T.mk_FooledRuns GI_FooledRuns (hr.mono (by first | decide | omega)) (by rfl) T.m_FooledRuns bI_FooledRuns .nil (fun _ _ => .nil) pass0 (va_cons (vo_of (ve_int pe_int)) (va_cons (vo_of (ve_int pe_int)) (va_cons (vo_of (ve_tup va_nil)) (va_cons (vo_of (ve_tup va_nil)) (va_cons (vo_of (ve_ct (kcall_tuple_of rfl) cs_tuple (by rfl) T.tuple (by decide +kernel) (va_cons (vo_of (ve_fz (vf_lc (own := [("house", 19)]) rfl sc__law_right.nd (vi_seq rfl (vo_var (pv 5))) (blkOk_by (own := [("house", 19)]) (N := N__law_right) (sc := defScope s__law_right) (by decide +kernel)) (fun _ _ _ _ _ => (vg_name (i := 19) sc__law_right.nd rfl (by first | exact Or.inl rfl | exact Or.inr rfl))) (fun _ _ _ _ _ => vts_nil) (fun _ _ _ _ _ => (ve_ix rfl (vo_of (ve_ix rfl (vo_var (pv 3)) (vo_of (ve_int pe_int)) (fun _ _ => rfl))) (vo_var (pv 19)) (fun _ _ => rfl)))))) va_nil))) va_nil))))))) va_nil)))))))) va_nil))))
  (vb_one (vs_ret (ve_and (ve_cmp op_isN os_isN (vo_var (pv 10)) (vo_of (ve_non pe_non)) (nomark _)) (ve_one (ve_cmp op_isBl os_isB (vo_of (ve_call D_are_fooled_runs.ok (hr.mono (by first | decide | omega)) (by rfl) D_are_fooled_runs.m D_are_fooled_runs.kp D_are_fooled_runs.b .nil (fun _ _ => .nil) pass0 (va_cons (vo_var (pv 4)) (va_cons (vo_var (pv 5)) (va_cons (vo_var (pv 9)) (va_cons (vo_var (pv 7)) (va_cons (vo_var (pv 12)) va_nil))))))) (vo_of (ve_bl pe_bl)) (nomark _)))))))
  vb_nil)
  (vb_cons (vs_if (vt_not (vt_tru rfl (vo_of (ve_isiO (cs := ["FooledRuns", "Keeping"]) (c := "FooledRuns") rfl (vo_var (pv 10)) (pe_glob (v := .ref T.C_FooledRuns) (by rfl) T.m_FooledRuns rfl) (by rfl) T.isinstance T.known T.kB_FooledRuns T.kC_FooledRuns))))
  (vb_one (vs_ret (ve_bl pe_bl)))
  vb_nil)
  (vb_cons (vs_set (i := 13) sc__law_right.nd rfl (by first | exact Or.inl rfl | exact Or.inr rfl) (ve_tup (va_cons (vo_of (ve_fld rfl (ve_var (pv 10)) rfl)) (va_cons (vo_of (ve_fld rfl (ve_var (pv 10)) rfl)) (va_cons (vo_of (ve_fld rfl (ve_var (pv 10)) rfl)) (va_cons (vo_of (ve_fld rfl (ve_var (pv 10)) rfl)) (va_cons (vo_of (ve_fld rfl (ve_var (pv 10)) rfl)) va_nil)))))))
  (vb_cons (vs_if (VW.vt (vw_or (vt_not (vt_tru rfl (vo_of (ve_call D__law_is.ok (hr.mono (by first | decide | omega)) (by rfl) D__law_is.m D__law_is.kp D__law_is.b .nil (fun _ _ => .nil) pass0 (va_cons (vo_var (pv 2)) (va_cons (vo_var (pv 3)) (va_cons (vo_var (pv 5)) (va_cons (vo_var (pv 9)) (va_cons (vo_var (pv 7)) (va_cons (vo_var (pv 13)) va_nil)))))))))) (vw_or1 (vt_cmp op_notBl os_notB (vo_of (ve_call D_are_fooled_runs.ok (hr.mono (by first | decide | omega)) (by rfl) D_are_fooled_runs.m D_are_fooled_runs.kp D_are_fooled_runs.b .nil (fun _ _ => .nil) pass0 (va_cons (vo_var (pv 4)) (va_cons (vo_var (pv 5)) (va_cons (vo_var (pv 9)) (va_cons (vo_var (pv 7)) (va_cons (vo_var (pv 10)) va_nil))))))) (vo_of (ve_bl pe_bl)) (nomark _)))))
  (vb_one (vs_ret (ve_bl pe_bl)))
  vb_nil)
  (vb_cons (vs_set (i := 14) sc__law_right.nd rfl (by first | exact Or.inl rfl | exact Or.inr rfl) (ve_call D_readings.ok (hr.mono (by first | decide | omega)) (by rfl) D_readings.m D_readings.kp D_readings.b .nil (fun _ _ => .nil) pass0 (va_cons (vo_var (pv 4)) (va_cons (vo_var (pv 5)) (va_cons (vo_of (ve_fld rfl (ve_var (pv 10)) rfl)) (va_cons (vo_var (pv 9)) (va_cons (vo_var (pv 7)) va_nil)))))))
  (vb_cons (vs_if (VW.vt (vw_or (vt_not (vt_tru rfl (vo_of (ve_isiB (cs := ["FooledRuns", "Keeping"]) (U := .tuple) rfl (vo_var (pv 14)) (pe_ty "tuple" (by rfl) T.tuple) (by rfl) T.isinstance T.known (fun c hc C hC => T.kU c hc C hC _))))) (vw_or (vt_cmp (op_notInP rfl (hu_of hr)) os_inP (vo_of (ve_fld rfl (ve_var (pv 10)) rfl)) (vo_var (pv 14)) (by rfl)) (vw_or (vt_cmp (op_notInP rfl (hu_of hr)) os_inP (vo_of (ve_fld rfl (ve_var (pv 10)) rfl)) (vo_var (pv 14)) (by rfl)) (vw_or1 (vt_cmp op_notN os_notN (vo_of (ve_call D_only_reading.ok (hr.mono (by first | decide | omega)) (by rfl) D_only_reading.m D_only_reading.kp D_only_reading.b .nil (fun _ _ => .nil) pass0 (va_cons (vo_var (pv 4)) (va_cons (vo_var (pv 5)) (va_cons (vo_of (ve_fld rfl (ve_var (pv 10)) rfl)) (va_cons (vo_var (pv 9)) (va_cons (vo_var (pv 7)) va_nil))))))) (vo_of (ve_non pe_non)) (nomark _)))))))
  (vb_one (vs_ret (ve_bl pe_bl)))
  vb_nil)
  (vb_cons (vs_for PassesOwn.never rfl (vi_rg1 (by rfl) T.range (va_cons (vo_of (ve_int pe_int)) va_nil)) (vg_name (i := 15) sc__law_right.nd rfl (by first | exact Or.inl rfl | exact Or.inr rfl))
  (vb_cons (vs_set (i := 16) sc__law_right.nd rfl (by first | exact Or.inl rfl | exact Or.inr rfl) (ve_call D__law_bent.ok (hr.mono (by first | decide | omega)) (by rfl) D__law_bent.m D__law_bent.kp D__law_bent.b .nil (fun _ _ => .nil) pass0 (va_cons (vo_var (pv 0)) (va_cons (vo_var (pv 2)) (va_cons (vo_var (pv 3)) (va_cons (vo_var (pv 5)) (va_cons (vo_var (pv 13)) va_nil)))))))
  (vb_one (vs_for PassesOwn.never rfl (vi_seq rfl (vo_of (ve_fz (vf_lst (va_cons (vo_of (ve_var (pv 9))) (va_cons (vo_of (ve_cb (cr_maxP rfl rfl (room65 hr)) cs_max (by rfl) T.max (by decide +kernel) (va_cons (vo_of (ve_int pe_int)) (va_cons (vo_of (ve_op op_sub os_sub (vo_var (pv 9)) (vo_of (ve_int pe_int)))) va_nil)))) va_nil)))))) (vg_name (i := 17) sc__law_right.nd rfl (by first | exact Or.inl rfl | exact Or.inr rfl))
  (vb_cons (vs_set (i := 18) sc__law_right.nd rfl (by first | exact Or.inl rfl | exact Or.inr rfl) (ve_make rfl T.m_FooledRuns T.cl_FooledRuns T.mk_FooledRuns GI_FooledRuns (hr.mono (by first | decide | omega)) (by rfl) T.m_FooledRuns bI_FooledRuns .nil (fun _ _ => .nil) pass0 (va_cons (vo_of (ve_ix rfl (vo_var (pv 16)) (vo_of (ve_int pe_int)) (fun _ _ => rfl))) (va_cons (vo_of (ve_ix rfl (vo_var (pv 16)) (vo_of (ve_int pe_int)) (fun _ _ => rfl))) (va_cons (vo_of (ve_ix rfl (vo_var (pv 16)) (vo_of (ve_int pe_int)) (fun _ _ => rfl))) (va_cons (vo_of (ve_ix rfl (vo_var (pv 16)) (vo_of (ve_int pe_int)) (fun _ _ => rfl))) (va_cons (vo_of (ve_ix rfl (vo_var (pv 16)) (vo_of (ve_int pe_int)) (fun _ _ => rfl))) va_nil)))))))
  (vb_one (vs_if (vt_not (vt_tru rfl (vo_of (ve_call D__law_like.ok (hr.mono (by first | decide | omega)) (by rfl) D__law_like.m D__law_like.kp D__law_like.b .nil (fun _ _ => .nil) pass0 (va_cons (vo_of (ve_call D_are_fooled_runs.ok (hr.mono (by first | decide | omega)) (by rfl) D_are_fooled_runs.m D_are_fooled_runs.kp D_are_fooled_runs.b .nil (fun _ _ => .nil) pass0 (va_cons (vo_var (pv 4)) (va_cons (vo_var (pv 5)) (va_cons (vo_var (pv 17)) (va_cons (vo_var (pv 7)) (va_cons (vo_var (pv 18)) va_nil))))))) (va_cons (vo_of (ve_call D__law_is.ok (hr.mono (by first | decide | omega)) (by rfl) D__law_is.m D__law_is.kp D__law_is.b .nil (fun _ _ => .nil) pass0 (va_cons (vo_var (pv 2)) (va_cons (vo_var (pv 3)) (va_cons (vo_var (pv 5)) (va_cons (vo_var (pv 17)) (va_cons (vo_var (pv 7)) (va_cons (vo_var (pv 16)) va_nil)))))))) va_nil))))))
  (vb_one (vs_ret (ve_bl pe_bl)))
  vb_nil)))))))
  (vb_cons (vs_set (i := 12) sc__law_right.nd rfl (by first | exact Or.inl rfl | exact Or.inr rfl) (ve_call D__law_pick.ok (hr.mono (by first | decide | omega)) (by rfl) D__law_pick.m D__law_pick.kp D__law_pick.b .nil (fun _ _ => .nil) pass0 (va_cons (vo_var (pv 0)) (va_cons (vo_of (ve_fz (vf_lst (va_cons (vo_of (ve_non pe_non)) (va_cons (vo_of (ve_var (pv 13))) (va_cons (vo_of (ve_tup (va_cons (vo_of (ve_var (pv 10))) va_nil))) (va_cons (vo_of (ve_str pe_str)) (va_cons (vo_of (ve_int pe_int)) (va_cons (vo_of (ve_make rfl T.m_FooledRuns T.cl_FooledRuns T.mk_FooledRuns GI_FooledRuns (hr.mono (by first | decide | omega)) (by rfl) T.m_FooledRuns bI_FooledRuns .nil (fun _ _ => .nil) pass0 (va_cons (vo_of (ve_non pe_non)) (va_cons (vo_of (ve_non pe_non)) (va_cons (vo_of (ve_non pe_non)) (va_cons (vo_of (ve_non pe_non)) (va_cons (vo_of (ve_non pe_non)) va_nil))))))) va_nil))))))))) va_nil))))
  (vb_one (vs_ret (ve_cmp op_isBl os_isB (vo_of (ve_callK (pm := [4, 3, 2, 1, 0]) D_are_fooled_runs.ok (hr.mono (by first | decide | omega)) (by rfl) D_are_fooled_runs.m D_are_fooled_runs.kp KB_are_fooled_runs_4_3_2_1_0 pass0 (vk_cons (vo_var (pv 12)) (vk_cons (vo_var (pv 7)) (vk_cons (vo_var (pv 9)) (vk_cons (vo_var (pv 5)) (vk_cons (vo_var (pv 4)) vk_nil))))))) (vo_of (ve_bl pe_bl)) (nomark _))))))))))))))))))) h)
theorem ok__law_crowd_right {f : Addr} {fd : FuncData} (F : Fun K "_law_crowd_right" "_law_crowd_right" s__law_crowd_right f fd) (T : Txt K mg) (D_crowded : Df P w K mg base 1 "crowded" ["keeping", "houses"] (spV (gxOf K w mg) W_crowded)) (D_fooled_runs : Df P w K mg base 3 "fooled_runs" ["keeping", "houses", "f", "is_signed"] (spV (gxOf K w mg) W_fooled_runs)) (D__law_draw : Df P w K mg base 1 "_law_draw" ["heap", "many"] (spV (gxOf K w mg) W__law_draw)) {fdI_Keeping : FuncData} (GI_Keeping : FnOk P w K mg base CX0 4 T.fI_Keeping fdI_Keeping ["self", "states", "rows"] (spN (gxOf K w mg) "Keeping" W_Keeping_init)) (bI_Keeping : Binds K fdI_Keeping ["self", "states", "rows"] []) : FnOk P w K mg base CX0 6 f fd ["heap"] (spV (gxOf K w mg) W__law_crowd_right) := by
  refine F.ok sc__law_crowd_right (fun vs H Q E h => spV_len (fun h => h.1) h) (fun cdv A outer s H vs Q E hr h => okV (N := N__law_crowd_right) rfl
  (vb_cons (vs_parT (is := [1, 2]) (vqs_cons (vq_v (ve_op (op_addP rfl) os_add (vo_of (ve_int pe_int)) (vo_of (ve_call D__law_draw.ok (hr.mono (by first | decide | omega)) (by rfl) D__law_draw.m D__law_draw.kp D__law_draw.b .nil (fun _ _ => .nil) pass0 (va_cons (vo_var (pv 0)) (va_cons (vo_of (ve_int pe_int)) va_nil)))))) (vqs_cons (vq_v (ve_op (op_addP rfl) os_add (vo_of (ve_int pe_int)) (vo_of (ve_call D__law_draw.ok (hr.mono (by first | decide | omega)) (by rfl) D__law_draw.m D__law_draw.kp D__law_draw.b .nil (fun _ _ => .nil) pass0 (va_cons (vo_var (pv 0)) (va_cons (vo_of (ve_int pe_int)) va_nil)))))) vqs_nil)) (kpg_tup (K := K) (n := 2) rfl rfl (pgs_cons (pg_name (i := 1) sc__law_crowd_right.nd rfl (by first | exact Or.inl rfl | exact Or.inr rfl)) (pgs_cons (pg_name (i := 2) sc__law_crowd_right.nd rfl (by first | exact Or.inl rfl | exact Or.inr rfl)) pgs_nil))))
  (vb_cons (vs_par2 (i := 3) (j := 4) rfl sc__law_crowd_right.nd rfl rfl  (by decide)  rfl rfl  (vqs_cons (vq_f (vf_lst va_nil)) (vqs_cons (vq_v (ve_ifE (vt_cmp (kop_eqD rfl hr.units) os_eq (vo_var (pv 2)) (vo_of (ve_int pe_int)) (nomark _)) (ve_op op_pow os_pow (vo_var (pv 1)) (vo_of (ve_int pe_int))) (ve_op op_pow os_pow (vo_var (pv 1)) (vo_of (ve_int pe_int))))) vqs_nil)) (by rfl))
  (vb_cons (vs_for PassesOwn.never rfl (vi_rg1 (by rfl) T.range (va_cons (vo_of (ve_op (op_addP rfl) os_add (vo_var (pv 4)) (vo_of (ve_int pe_int)))) va_nil)) (vg_name (i := 5) sc__law_crowd_right.nd rfl (by first | exact Or.inl rfl | exact Or.inr rfl))
  (vb_one (vs_expr (ve_app rfl (pv 3) (ve_op (op_addP rfl) os_add (vo_of (ve_ct (kcall_tuple_of rfl) cs_tuple (by rfl) T.tuple (by decide +kernel) (va_cons (vo_of (ve_fz (vf_lc (own := [("house", 10)]) rfl sc__law_crowd_right.nd (vi_rg1 (by rfl) T.range (va_cons (vo_var (pv 2)) va_nil)) (blkOk_by (own := [("house", 10)]) (N := N__law_crowd_right) (sc := defScope s__law_crowd_right) (by decide +kernel)) (fun _ _ _ _ _ => (vg_name (i := 10) sc__law_crowd_right.nd rfl (by first | exact Or.inl rfl | exact Or.inr rfl))) (fun _ _ _ _ _ => vts_nil) (fun _ _ _ _ _ => (ve_call D__law_draw.ok (hr.mono (by first | decide | omega)) (by rfl) D__law_draw.m D__law_draw.kp D__law_draw.b .nil (fun _ _ => .nil) pass0 (va_cons (vo_var (pv 0)) (va_cons (vo_var (pv 1)) va_nil))))))) va_nil))) (vo_of (ve_tup (va_cons (vo_of (ve_op op_mod os_mod (vo_of (ve_ct (call_int1) cs_int (by rfl) T.int (by decide +kernel) (va_cons (vo_var (pv 5)) va_nil))) (vo_var (pv 1)))) (va_cons (vo_of (ve_op op_mod os_mod (vo_of (ve_ct (call_int1) cs_int (by rfl) T.int (by decide +kernel) (va_cons (vo_of (ve_op op_fdivW os_div (vo_var (pv 5)) (vo_var (pv 1)))) va_nil))) (vo_var (pv 1)))) (va_cons (vo_of (ve_op op_mod os_mod (vo_of (ve_ct (call_int1) cs_int (by rfl) T.int (by decide +kernel) (va_cons (vo_of (ve_op op_fdivW os_div (vo_var (pv 5)) (vo_of (ve_op (op_mulP rfl) os_mul (vo_var (pv 1)) (vo_var (pv 1)))))) va_nil))) (vo_var (pv 1)))) va_nil))))))))))
  (vb_cons (vs_frz 3 (vs_par2 (i := 6) (j := 7) rfl sc__law_crowd_right.nd rfl rfl  (by decide)  rfl rfl  (vqs_cons (vq_v (ve_make rfl T.m_Keeping T.cl_Keeping T.mk_Keeping GI_Keeping (hr.mono (by first | decide | omega)) (by rfl) T.m_Keeping bI_Keeping .nil (fun _ _ => .nil) pass0 (va_cons (vo_of (ve_var (pv 1))) (va_cons (vo_of (ve_var (pv 3))) va_nil)))) (vqs_cons (vq_v (ve_rgT1 rfl (by rfl) T.tuple (by rfl) T.range (ve_var (pv 2)))) vqs_nil)) (by rfl)))
  (vb_cons (vs_set (i := 8) sc__law_crowd_right.nd rfl (by first | exact Or.inl rfl | exact Or.inr rfl) (ve_call D_crowded.ok (hr.mono (by first | decide | omega)) (by rfl) D_crowded.m D_crowded.kp D_crowded.b .nil (fun _ _ => .nil) pass0 (va_cons (vo_var (pv 6)) (va_cons (vo_var (pv 7)) va_nil))))
  (vb_cons (vs_if (VW.vt (vw_or (vt_not (vt_tru rfl (vo_of (ve_isiB (cs := ["FooledRuns", "Keeping"]) (U := .tuple) rfl (vo_var (pv 8)) (pe_ty "tuple" (by rfl) T.tuple) (by rfl) T.isinstance T.known (fun c hc C hC => T.kU c hc C hC _))))) (vw_or (vt_cmp (kop_neD rfl hr.units) os_ne (vo_of (ve_cb (cr_lenP rfl) cs_len (by rfl) T.len (by decide +kernel) (va_cons (vo_var (pv 8)) va_nil))) (vo_of (ve_int pe_int)) (nomark _)) (vw_or (vt_not (vt_chain3 op_le op_lt op_lt os_le os_lt os_lt (ve_int pe_int) (ve_ix rfl (vo_var (pv 8)) (vo_of (ve_int pe_int)) (fun _ _ => rfl)) (ve_ix rfl (vo_var (pv 8)) (vo_of (ve_int pe_int)) (fun _ _ => rfl)) (ve_cb (cr_lenP rfl) cs_len (by rfl) T.len (by decide +kernel) (va_cons (vo_var (pv 3)) va_nil)))) (vw_or1 (vt_cmp (kop_neD rfl hr.units) os_ne (vo_of (ve_sl rfl (vo_of (ve_ix rfl (vo_var (pv 3)) (vo_of (ve_ix rfl (vo_var (pv 8)) (vo_of (ve_int pe_int)) (fun _ _ => rfl))) (fun _ _ => rfl))) vp_none (vp_some (ve_var (pv 2))))) (vo_of (ve_sl rfl (vo_of (ve_ix rfl (vo_var (pv 3)) (vo_of (ve_ix rfl (vo_var (pv 8)) (vo_of (ve_int pe_int)) (fun _ _ => rfl))) (fun _ _ => rfl))) vp_none (vp_some (ve_var (pv 2))))) (nomark _)))))))
  (vb_one (vs_ret (ve_bl pe_bl)))
  vb_nil)
  (vb_cons (vs_set (i := 9) sc__law_crowd_right.nd rfl (by first | exact Or.inl rfl | exact Or.inr rfl) (ve_call D_fooled_runs.ok (hr.mono (by first | decide | omega)) (by rfl) D_fooled_runs.m D_fooled_runs.kp D_fooled_runs.b .nil (fun _ _ => .nil) pass0 (va_cons (vo_var (pv 6)) (va_cons (vo_var (pv 7)) (va_cons (vo_of (ve_int pe_int)) (va_cons (vo_of (ve_cmp (kop_eqD rfl hr.units) os_eq (vo_of (ve_call D__law_draw.ok (hr.mono (by first | decide | omega)) (by rfl) D__law_draw.m D__law_draw.kp D__law_draw.b .nil (fun _ _ => .nil) pass0 (va_cons (vo_var (pv 0)) (va_cons (vo_of (ve_int pe_int)) va_nil)))) (vo_of (ve_int pe_int)) (nomark _))) va_nil))))))
  (vb_one (vs_ret (ve_and (ve_isiO (cs := ["FooledRuns", "Keeping"]) (c := "FooledRuns") rfl (vo_var (pv 9)) (pe_glob (v := .ref T.C_FooledRuns) (by rfl) T.m_FooledRuns rfl) (by rfl) T.isinstance T.known T.kB_FooledRuns T.kC_FooledRuns) (ve_and (ve_cmp (kop_eqD rfl hr.units) os_eq (vo_of (ve_fld rfl (ve_var (pv 9)) rfl)) (vo_of (ve_tup va_nil)) (nomark _)) (ve_and (ve_cmp (kop_eqD rfl hr.units) os_eq (vo_of (ve_fld rfl (ve_var (pv 9)) rfl)) (vo_of (ve_tup va_nil)) (nomark _)) (ve_one (ve_cmp (kop_eqD rfl hr.units) os_eq (vo_of (ve_sl rfl (vo_of (ve_ix rfl (vo_var (pv 3)) (vo_of (ve_fld rfl (ve_var (pv 9)) rfl)) (fun _ _ => rfl))) vp_none (vp_some (ve_var (pv 2))))) (vo_of (ve_sl rfl (vo_of (ve_ix rfl (vo_var (pv 3)) (vo_of (ve_fld rfl (ve_var (pv 9)) rfl)) (fun _ _ => rfl))) vp_none (vp_some (ve_var (pv 2))))) (nomark _))))))))))))))) h)
theorem ok_law {f : Addr} {fd : FuncData} (F : Fun K "law" "law" s_law f fd) (T : Txt K mg) (D__law_heap : Df P w K mg base 1 "_law_heap" ["script"] (spV (gxOf K w mg) W__law_heap)) (D_fooled_runs : Df P w K mg base 3 "fooled_runs" ["keeping", "houses", "f", "is_signed"] (spV (gxOf K w mg) W_fooled_runs)) (D__law_right : Df P w K mg base 6 "_law_right" ["heap", "houses"] (spV (gxOf K w mg) W__law_right)) (D__law_crowd_right : Df P w K mg base 6 "_law_crowd_right" ["heap"] (spV (gxOf K w mg) W__law_crowd_right)) (D__law_draw : Df P w K mg base 1 "_law_draw" ["heap", "many"] (spV (gxOf K w mg) W__law_draw)) (D__law_pick : Df P w K mg base 2 "_law_pick" ["heap", "some"] (spV (gxOf K w mg) W__law_pick)) {fdI_Keeping : FuncData} (GI_Keeping : FnOk P w K mg base CX0 4 T.fI_Keeping fdI_Keeping ["self", "states", "rows"] (spN (gxOf K w mg) "Keeping" W_Keeping_init)) (bI_Keeping : Binds K fdI_Keeping ["self", "states", "rows"] []) : FnOk P w K mg base CX0 7 f fd ["script"] (spV (gxOf K w mg) W_law) := by
  refine F.ok sc_law (fun vs H Q E h => spV_len (fun h => h.1) h) (fun cdv A outer s H vs Q E hr h => okV (N := N_law) rfl
  (vb_cons (vs_set (i := 1) sc_law.nd rfl (by first | exact Or.inl rfl | exact Or.inr rfl) (ve_call D__law_heap.ok (hr.mono (by first | decide | omega)) (by rfl) D__law_heap.m D__law_heap.kp D__law_heap.b .nil (fun _ _ => .nil) pass0 (va_cons (vo_var (pv 0)) va_nil)))
  (vb_cons (vs_for PassesOwn.never rfl (vi_rg1 (by rfl) T.range (va_cons (vo_of (ve_int pe_int)) va_nil)) (vg_name (i := 2) sc_law.nd rfl (by first | exact Or.inl rfl | exact Or.inr rfl))
  (vb_one (vs_if (VW.vt (vw_or (vt_not (vt_tru rfl (vo_of (ve_call D__law_right.ok (hr.mono (by first | decide | omega)) (by rfl) D__law_right.m D__law_right.kp D__law_right.b .nil (fun _ _ => .nil) pass0 (va_cons (vo_var (pv 1)) (va_cons (vo_of (ve_op (op_addP rfl) os_add (vo_of (ve_int pe_int)) (vo_of (ve_call D__law_draw.ok (hr.mono (by first | decide | omega)) (by rfl) D__law_draw.m D__law_draw.kp D__law_draw.b .nil (fun _ _ => .nil) pass0 (va_cons (vo_var (pv 1)) (va_cons (vo_of (ve_call D__law_pick.ok (hr.mono (by first | decide | omega)) (by rfl) D__law_pick.m D__law_pick.kp D__law_pick.b .nil (fun _ _ => .nil) pass0 (va_cons (vo_var (pv 1)) (va_cons (vo_of (ve_fz (vf_lst (va_cons (vo_of (ve_int pe_int)) (va_cons (vo_of (ve_int pe_int)) (va_cons (vo_of (ve_int pe_int)) va_nil)))))) va_nil)))) va_nil)))))) va_nil)))))) (vw_or1 (vt_not (vt_tru rfl (vo_of (ve_call D__law_crowd_right.ok (hr.mono (by first | decide | omega)) (by rfl) D__law_crowd_right.m D__law_crowd_right.kp D__law_crowd_right.b .nil (fun _ _ => .nil) pass0 (va_cons (vo_var (pv 1)) va_nil))))))))
  (vb_one (vs_ret (ve_bl pe_bl)))
  vb_nil)))
  (vb_cons (vs_set (i := 3) sc_law.nd rfl (by first | exact Or.inl rfl | exact Or.inr rfl) (ve_make rfl T.m_Keeping T.cl_Keeping T.mk_Keeping GI_Keeping (hr.mono (by first | decide | omega)) (by rfl) T.m_Keeping bI_Keeping .nil (fun _ _ => .nil) pass0 (va_cons (vo_of (ve_int pe_int)) (va_cons (vo_of (ve_tup (va_cons (vo_of (ve_tup (va_cons (vo_of (ve_int pe_int)) (va_cons (vo_of (ve_int pe_int)) (va_cons (vo_of (ve_int pe_int)) va_nil))))) (va_cons (vo_of (ve_tup (va_cons (vo_of (ve_int pe_int)) (va_cons (vo_of (ve_int pe_int)) (va_cons (vo_of (ve_int pe_int)) va_nil))))) va_nil)))) va_nil))))
  (vb_one (vs_ret (ve_and (ve_cmp op_isN os_isN (vo_of (ve_call D_fooled_runs.ok (hr.mono (by first | decide | omega)) (by rfl) D_fooled_runs.m D_fooled_runs.kp D_fooled_runs.b .nil (fun _ _ => .nil) pass0 (va_cons (vo_var (pv 3)) (va_cons (vo_of (ve_tup (va_cons (vo_of (ve_int pe_int)) (va_cons (vo_of (ve_int pe_int)) (va_cons (vo_of (ve_int pe_int)) va_nil))))) (va_cons (vo_of (ve_int pe_int)) (va_cons (vo_of (ve_bl pe_bl)) va_nil)))))) (vo_of (ve_non pe_non)) (nomark _)) (ve_one (ve_isiO (cs := ["FooledRuns", "Keeping"]) (c := "FooledRuns") rfl (vo_of (ve_call D_fooled_runs.ok (hr.mono (by first | decide | omega)) (by rfl) D_fooled_runs.m D_fooled_runs.kp D_fooled_runs.b .nil (fun _ _ => .nil) pass0 (va_cons (vo_var (pv 3)) (va_cons (vo_of (ve_tup (va_cons (vo_of (ve_int pe_int)) (va_cons (vo_of (ve_int pe_int)) va_nil)))) (va_cons (vo_of (ve_int pe_int)) (va_cons (vo_of (ve_bl pe_bl)) va_nil)))))) (pe_glob (v := .ref T.C_FooledRuns) (by rfl) T.m_FooledRuns rfl) (by rfl) T.isinstance T.known T.kB_FooledRuns T.kC_FooledRuns)))))))) h)
end
end K40

namespace K40
open PySem PySem.Spec PyProof.Rows L2 Hl Vl
/-! ### the law's own defs -/
theorem lay_ints : ∀ ns : List Int, PyData.canLayAll0 (ns.map PyData.int) = true
  | [] => by simp [PyData.canLayAll0]
  | n :: r => by simp [PyData.canLayAll0, PyData.canLay0, lay_ints r]
theorem depth_ints : ∀ ns : List Int, PyData.depthAll (ns.map PyData.int) = 0
  | [] => by simp [PyData.depthAll]
  | n :: r => by
    have h := depth_ints r
    simp only [List.map_cons, PyData.depthAll, PyData.depth, h]
    rfl
theorem shaped_ints (ns : List Int) : SeqAt.shaped (.list (ns.map PyData.int)) = true := by
  show ((PyData.list (ns.map PyData.int)).canLay0 && decide ((PyData.list (ns.map PyData.int)).depth ≤ 64)) = true
  simp only [PyData.canLay0, PyData.depth, lay_ints, depth_ints]
  rfl
theorem at_last (cs : List Int) (h : cs ≠ []) : atI (cs.map V.int) (-1) = some (.int (cs.getLast h)) := by
  have e : cs.map V.int = cs.dropLast.map V.int ++ [.int (cs.getLast h)] := by
    rw [← List.map_singleton, ← List.map_append, List.dropLast_concat_getLast]
  rw [e]
  exact atI_last _ _
theorem get_last (cs : List Int) (h : cs ≠ []) : (cs.map V.int)[(cs.map V.int).length - 1]? = some (.int (cs.getLast h)) := by
  rw [← List.getLast?_eq_getElem?, List.getLast?_map, List.getLast?_eq_getLast h]
  rfl
section
variable {P : Program} {w : World} {K : PySem.W.Frag} {mg : Str → Option Value} {base : Heap}

theorem ok_draw {f : Addr} {fd : FuncData} (F : Fun K "_law_draw" "_law_draw" s__law_draw f fd) (T : Txt K mg) : FnOk P w K mg base CX0 1 f fd ["heap", "many"] sp_draw := by
  refine F.ok sc__law_draw (fun vs H Q E h => ?_) (fun cdv A outer s H vs Q E hr h => ?_)
  · obtain ⟨_, _, _, rfl, _⟩ := h
    rfl
  · obtain ⟨w, q, many, rfl, ⟨cs0, st, hw, hq, hp, hl, hs1, hs2⟩, m0, m1, k⟩ := h
    refine ⟨_, (pss_cons (ps_while PassesOwn.never (PW.pt (pw_and (pt_cmpR (op_neD hr.units) (pe_ix ix_list (pv 0) pe_int (fun _ _ => rfl)) (pe_lst pa_nil) (nomark _)) (pw_and1 (pt_cmpR op_eq (pe_ix ix_list (pe_ix ix_list (pv 0) pe_int (fun _ _ => rfl)) (pe_un un_neg pe_int) (fun _ _ => rfl)) pe_int (nomark _)))))
  (pss_one (ps_expr (pe_bm0 PySem.F.plainAttrs_list PySem.F.slot_list_pop PySem.F.type_list_pop mt_pop (pe_ix ix_list (pv 0) pe_int (fun _ _ => rfl))))))
  (pss_cons (ps_if (pt_cmpR (op_neD hr.units) (pe_ix ix_list (pv 0) pe_int (fun _ _ => rfl)) (pe_lst pa_nil) (nomark _))
  (pss_cons (ps_set (i := 2) sc__law_draw.nd rfl (by first | exact Or.inl rfl | exact Or.inr rfl) (pe_bm0 PySem.F.plainAttrs_list PySem.F.slot_list_pop PySem.F.type_list_pop mt_pop (pe_ix ix_list (pv 0) pe_int (fun _ _ => rfl))))
  (pss_cons (ps_expr (pe_bm PySem.F.plainAttrs_list PySem.F.slot_list_append PySem.F.type_list_append mt_append (pe_ix ix_list (pv 0) pe_int (fun _ _ => rfl)) (pa_cons (pe_op op_fdivN (pv 2) (pv 1)) pa_nil)))
  (pss_one (ps_ret (pe_op op_mod (pe_callTy call_int1 (by rfl) T.int (by decide +kernel) (pa_cons (pv 2) pa_nil)) (pv 1))))))
  pss_nil)
  (pss_cons (ps_asg (pe_op op_mod (pe_callTy call_int1 (by rfl) T.int (by decide +kernel) (pa_cons (pe_op op_add (pe_op op_mul (pe_ix ix_list (pv 0) pe_int (fun _ _ => rfl)) pe_int) pe_int) pa_nil)) pe_int) (pg_sub (pv 0) pe_int set_list))
  (pss_one (ps_ret (pe_op op_mod (pe_callTy call_int1 (by rfl) T.int (by decide +kernel) (pa_cons (pe_op op_fdivN (pe_ix ix_list (pv 0) pe_int (fun _ _ => rfl)) pe_int) pa_nil)) (pv 1))))))), ?_⟩
    -- is a list of ints another one than []
    have test : ∀ {H1 : Hp} {cs : List Int} {p : Addr} {R : VK}, H1 q = some (.lst (cs.map V.int)) → H1 p = none → R (.bl (!cs.isEmpty)) (upd H1 p (.lst [])) → rNeD K (.ref q) (.ref p) (upd H1 p (.lst [])) R := fun {H1 cs p R} h1 h2 r => by
      refine ⟨.list (cs.map PyData.int), .list [], .lst (SqL.of (by rw [upd_ne (ne_of_none h1 h2)]; exact h1)) (dps_ints cs), .lst (SqL.of upd_same) .nil, shaped_ints cs, rfl, ?_⟩
      cases cs with
      | nil => exact r
      | cons c r' => exact r
    refine while_ex (fun m σ H' => σ = [some (.ref w), some (.int many), none] ∧ ∃ cs : List Int, m = cs.length ∧ H' w = some (.lst [.ref q, .int st]) ∧ H' q = some (.lst (cs.map V.int)) ∧ (∀ c ∈ cs, 0 ≤ c) ∧ cs.length ≤ 63 ∧ Frm w q H H')
      (fun σ H' => σ = [some (.ref w), some (.int many), none] ∧ ∃ cs : List Int, H' w = some (.lst [.ref q, .int st]) ∧ H' q = some (.lst (cs.map V.int)) ∧ (∀ c ∈ cs, 0 ≤ c) ∧ cs.length ≤ 63 ∧ Frm w q H H')
      ⟨cs0.length, rfl, cs0, rfl, hw, hq, hp, hl, Frm.refl _ _ _⟩ ?_ ?_
    · rintro m σ H1 ⟨rfl, cs, rfl, hw, hq, hp, hl, fr⟩ Z hZ
      have nwq : w ≠ q := fun e => by
        rw [e, hq] at hw
        cases cs with
        | nil => simp at hw
        | cons c r => simp at hw
      refine ⟨_, rfl, w, _, 0, _, rfl, rfl, SqL.of hw, atI_nat (j := 0) rfl, Nat.zero_le _, fun p hpn => ?_⟩
      have sm : Same H1 (upd H1 p (.lst [])) := same_new hpn
      have hw3 := sm _ _ hw
      have hq3 := sm _ _ hq
      refine test hq hpn ⟨_, rfl, ?_⟩
      by_cases hcs : cs = []
      · subst hcs
        exact iteF (iteF (hZ _ _ ⟨rfl, [], hw3, hq3, hp, hl, fr.trans (Frm.same sm)⟩))
      · have hem : (!cs.isEmpty) = true := by cases cs with
          | nil => exact absurd rfl hcs
          | cons _ _ => rfl
        rw [hem]
        refine iteT ?_
        refine ⟨_, rfl, w, _, 0, _, rfl, rfl, SqL.of hw3, atI_nat (j := 0) rfl, _, rfl, q, _, -1, _, rfl, rfl, SqL.of hq3, at_last cs hcs, rfl, _, rfl, ite_dec (fun z => ?_) (fun z => ?_)⟩
        · refine ⟨fun σ' H' => σ' = [some (.ref w), some (.int many), none] ∧ ∃ cs' : List Int, cs'.length < cs.length ∧ H' w = some (.lst [.ref q, .int st]) ∧ H' q = some (.lst (cs'.map V.int)) ∧ (∀ c ∈ cs', 0 ≤ c) ∧ cs'.length ≤ 63 ∧ Frm w q H H', ?_, ?_⟩
          · rintro σ' H' ⟨rfl, cs', h1, h2, h3, h4, h5, h6⟩
            exact ⟨_, h1, rfl, cs', rfl, h2, h3, h4, h5, h6⟩
          · refine ⟨_, rfl, w, _, 0, _, rfl, rfl, SqL.of hw3, atI_nat (j := 0) rfl, .inl ⟨rfl, _, SqL.of hq3⟩, q, _, _, rfl, rfl, hq3, get_last cs hcs, ?_⟩
            have hpos : 0 < cs.length := List.length_pos_iff.mpr hcs
            refine ⟨rfl, cs.dropLast, by rw [List.length_dropLast]; omega, ?_, ?_, fun c hc => hp _ (List.dropLast_subset _ hc), by rw [List.length_dropLast]; omega, (fr.trans (Frm.same sm)).q⟩
            · rw [upd_ne nwq]; exact hw3
            · rw [upd_same, List.map_dropLast]
        · exact hZ _ _ ⟨rfl, cs, hw3, hq3, hp, hl, fr.trans (Frm.same sm)⟩
    · rintro σ H2 ⟨rfl, cs, hw2, hq2, hp, hl, fr2⟩
      have nwq : w ≠ q := fun e => by
        rw [e, hq2] at hw2
        cases cs with
        | nil => simp at hw2
        | cons c r => simp at hw2
      refine ⟨_, rfl, w, _, 0, _, rfl, rfl, SqL.of hw2, atI_nat (j := 0) rfl, Nat.zero_le _, fun p hpn => ?_⟩
      have sm3 : Same H2 (upd H2 p (.lst [])) := same_new hpn
      have hw3 := sm3 _ _ hw2
      have hq3 := sm3 _ _ hq2
      have fr3 := fr2.trans (Frm.same (w := w) (q := q) sm3)
      refine test hq2 hpn ⟨_, rfl, ?_⟩
      by_cases hcs : cs = []
      · subst hcs
        refine iteF ?_
        refine ⟨_, rfl, w, _, 1, _, rfl, rfl, SqL.of hw3, atI_nat (j := 1) rfl, _, _, rfl, rfl, .inl ⟨by omega, by omega⟩, _, _, rfl, rfl, .inl ⟨_, rfl, ?_⟩⟩
        refine ⟨_, _, rfl, rfl, (by show (0 : Int) < 2147483647; decide), ?_⟩
        refine ⟨_, rfl, w, _, 1, 1, rfl, rfl, hw3, rfl, ?_⟩
        refine ⟨_, rfl, w, _, 1, _, rfl, rfl, SqL.of upd_same, atI_nat (j := 1) rfl, _, _, rfl, rfl, ⟨by decide, by decide⟩, .inl ⟨_, rfl, _, rfl, _, _, rfl, rfl, m0, ?_⟩⟩
        refine k _ _ (Int.emod_nonneg _ (by omega)) (Int.emod_lt_of_pos _ m0) fr3.w ⟨[], _, upd_same, ?_, by simp, by simp, Int.emod_nonneg _ (by omega), Int.emod_lt_of_pos _ (by decide)⟩
        rw [upd_ne nwq.symm]
        exact hq3
      · have hne := hcs
        have hem : (!cs.isEmpty) = true := by cases cs with
          | nil => exact absurd rfl hcs
          | cons _ _ => rfl
        rw [hem]
        refine iteT ?_
        refine ⟨_, rfl, w, _, 0, _, rfl, rfl, SqL.of hw3, atI_nat (j := 0) rfl, .inl ⟨rfl, _, SqL.of hq3⟩, q, _, _, rfl, rfl, hq3, get_last cs hne, ?_⟩
        have hw4 : upd (upd H2 p (.lst [])) q (.lst (cs.map V.int).dropLast) w = some (.lst [.ref q, .int st]) := by rw [upd_ne nwq]; exact hw3
        refine ⟨_, rfl, w, _, 0, _, rfl, rfl, SqL.of hw4, atI_nat (j := 0) rfl, .inl ⟨rfl, _, SqL.of upd_same⟩, _, rfl, _, rfl, _, _, rfl, rfl, ⟨by omega, by omega⟩, q, _, _, rfl, rfl, upd_same, ?_, ?_⟩
        · rw [List.length_dropLast, List.length_map]
          exact Nat.lt_of_le_of_lt (Nat.le_trans (Nat.sub_le _ _) hl) (by decide)
        · refine ⟨_, rfl, .inl ⟨_, rfl, _, rfl, _, _, rfl, rfl, m0, ?_⟩⟩
          have hc0 : 0 ≤ cs.getLast hne := hp _ (List.getLast_mem hne)
          refine k _ _ (Int.emod_nonneg _ (by omega)) (Int.emod_lt_of_pos _ m0) (fr3.q.q) ⟨cs.dropLast ++ [(cs.getLast hne).fdiv many], st, ?_, ?_, ?_, ?_, hs1, hs2⟩
          · rw [upd_ne nwq]; exact hw4
          · rw [upd_same, List.map_append, List.map_dropLast]; rfl
          · intro x hx
            rcases List.mem_append.mp hx with hx | hx
            · exact hp _ (List.dropLast_subset _ hx)
            · rw [List.mem_singleton.mp hx, Int.fdiv_eq_ediv_of_nonneg _ (by omega)]
              exact Int.ediv_nonneg hc0 (by omega)
          · rw [List.length_append, List.length_dropLast, List.length_singleton]
            have : 0 < cs.length := List.length_pos_iff.mpr hne
            omega
end
theorem mem_ints {ns : List Int} {y : V} {i : Nat} (h : (ns.map V.int)[i]? = some y) : ∃ n, y = V.int n ∧ ns[i]? = some n := by
  rw [List.getElem?_map] at h
  cases e : ns[i]? with
  | none => rw [e] at h; cases h
  | some n => rw [e] at h; exact ⟨n, (Option.some.inj h).symm, rfl⟩
section
variable {P : Program} {w : World} {K : PySem.W.Frag} {mg : Str → Option Value} {base : Heap}
theorem ok_heap {f : Addr} {fd : FuncData} (F : Fun K "_law_heap" "_law_heap" s__law_heap f fd) (T : Txt K mg) : FnOk P w K mg base CX0 1 f fd ["script"] (sp_heap K) := by
  refine F.ok sc__law_heap (fun vs H Q E h => ?_) (fun cdv A outer s H vs Q E hr h => ?_)
  · obtain ⟨_, _, rfl, _⟩ := h
    rfl
  · obtain ⟨a, ns, rfl, hS, hl, k⟩ := h
    refine ⟨_, (pss_cons (ps_par (i := 1) (j := 2) rfl sc__law_heap.nd rfl rfl (by decide) rfl rfl (pa_cons (pe_lc (own := [("cell", 3)]) (by rfl) sc__law_heap.nd (pi_list (pe_slice sl_list (pv 0) po_none (po_some pe_int))) (blkOk_by (own := [("cell", 3)]) (N := N__law_heap) (sc := defScope s__law_heap) (by decide +kernel)) (fun _ _ _ _ _ => (pg_name (i := 3) sc__law_heap.nd rfl (by first | exact Or.inl rfl | exact Or.inr rfl))) (fun _ _ _ _ _ => pts_nil) (fun _ _ _ _ _ => (pe_op op_add (pe_op op_mul pe_int (pe_callB call_abs (by rfl) T.abs (by decide +kernel) (pa_cons (pv 3) pa_nil))) (pe_callTy call_int1 (by rfl) T.int (by decide +kernel) (pa_cons (pe_cmpR op_lt (pv 3) pe_int (nomark _)) pa_nil))))) (pa_cons pe_int pa_nil)) (by rfl))
  (pss_cons (ps_for PassesOwn.never rfl (pi_list (pv 1)) (pg_name (i := 3) sc__law_heap.nd rfl (by first | exact Or.inl rfl | exact Or.inr rfl))
  (pss_one (ps_set (i := 2) sc__law_heap.nd rfl (by first | exact Or.inl rfl | exact Or.inr rfl) (pe_op op_mod (pe_callTy call_int1 (by rfl) T.int (by decide +kernel) (pa_cons (pe_op op_add (pe_op op_add (pe_op op_mul (pv 2) pe_int) (pe_op op_mod (pe_callTy call_int1 (by rfl) T.int (by decide +kernel) (pa_cons (pv 3) pa_nil)) pe_int)) pe_int) pa_nil)) pe_int))))
  (pss_one (ps_ret (pe_lst (pa_cons (pe_revL (pe_lc (own := [("cell", 3)]) (by rfl) sc__law_heap.nd (pi_list (pv 1)) (blkOk_by (own := [("cell", 3)]) (N := N__law_heap) (sc := defScope s__law_heap) (by decide +kernel)) (fun _ _ _ _ _ => (pg_name (i := 3) sc__law_heap.nd rfl (by first | exact Or.inl rfl | exact Or.inr rfl))) (fun _ _ _ _ _ => (pts_one (pt_cmpR op_ge (pv 3) (pe_op op_pow pe_int pe_int) (nomark _)))) (fun _ _ _ _ _ => (pv 3)))) (pa_cons (pv 2) pa_nil))))))), ?_⟩
    refine ⟨_, rfl, 60, rfl, a, _, rfl, hS, fun p hp => ?_⟩
    have s1 : Same H (upd H p (.lst (cutV (ns.map V.int) none (some 60)))) := same_new hp
    have hcut : ∃ ms : List Int, cutV (ns.map V.int) none (some 60) = ms.map V.int ∧ ms.length ≤ 63 := by
      refine ⟨(ns.drop (HT.sIx (ns.map V.int).length 0 none)).take (HT.sIx (ns.map V.int).length (ns.map V.int).length (some 60) - HT.sIx (ns.map V.int).length 0 none), ?_, ?_⟩
      · unfold cutV
        rw [List.map_take, List.map_drop]
      · rw [List.length_take, List.length_drop]
        omega
    obtain ⟨ms, ems, hms⟩ := hcut
    rw [ems] at s1 ⊢
    refine ⟨p, rfl, ⟨_, SqL.of upd_same⟩, fun D hD => ?_⟩
    refine lc_same walk_list (by rw [List.length_map]; omega) hD ErI (fun _ _ _ _ _ _ h => h) (fun _ _ _ _ _ h => h) (fun i l => l.length ≤ i ∧ ∀ c ∈ l, 0 ≤ c) ⟨Nat.le_refl _, by simp⟩ (fun H2 sm => SqL.of (sm _ _ upd_same)) ?_ ?_
    · rintro i x H2 H3 l hi sm - ⟨hl1, hl2⟩ ⟨rfl, hx⟩ A B hA hB
      obtain ⟨c, rfl, _⟩ := mem_ints hx
      refine ⟨rfl, t_yes ?_⟩
      refine ⟨_, rfl, _, rfl, _, _, rfl, rfl, .inl ⟨by decide, by decide⟩, ?_⟩
      refine ⟨_, rfl, _, _, rfl, rfl, .inr ⟨_, rfl, ?_⟩⟩
      refine ⟨_, _, rfl, rfl, ?_⟩
      refine hA _ _ _ (Same.refl _) rfl ⟨by rw [List.length_append]; exact Nat.succ_le_succ hl1, fun z hz => ?_⟩
      rcases List.mem_append.mp hz with hz | hz
      · exact hl2 _ hz
      · rw [List.mem_singleton.mp hz]
        split <;> split <;> omega
    · rintro H2 us l sm hD2 hE ⟨hl1, hl2⟩
      have e := hE.ints
      subst e
      rw [List.length_map] at hl1
      refine ⟨_, _, rfl, ?_⟩
      refine ⟨_, rfl, D, rfl, ⟨_, SqL.of hD2⟩, for_list (xs := l.map V.int) (fun i σ H' => ∃ st x, σ = [some (.ref a), some (.ref D), some (.int st), x] ∧ 0 ≤ st ∧ st < 2147483647 ∧ H' = H2) ⟨_, none, rfl, by decide, by decide, rfl⟩ (fun i σ H' _ ⟨_, _, _, _, _, e⟩ => by rw [e]; exact SqL.of hD2) ?_ ?_⟩
      · rintro i y σ H' hy ⟨st, x, rfl, h0, h1, rfl⟩
        obtain ⟨c, rfl, _⟩ := mem_ints hy
        refine ⟨_, rfl, _, _, rfl, rfl, .inl ⟨by omega, by omega⟩, ?_⟩
        refine ⟨_, rfl, .inl ⟨_, rfl, _, _, rfl, rfl, (by show (0 : Int) < 2147483563; decide), ?_⟩⟩
        refine ⟨_, _, rfl, rfl, _, _, rfl, rfl, .inl ⟨_, rfl, _, _, rfl, rfl, (by show (0 : Int) < 2147483647; decide), ?_⟩⟩
        exact ⟨_, _, rfl, Int.emod_nonneg _ (by decide), Int.emod_lt_of_pos _ (by decide), rfl⟩
      · rintro σ H' ⟨st, x, rfl, h0, h1, rfl⟩
        refine ⟨_, rfl, D, rfl, ⟨_, SqL.of hD2⟩, fun D2 hDn => ?_⟩
        refine lc_same (walk_list (xs := l.map V.int)) (by rw [List.length_map]; omega) hDn ErI (fun _ _ _ _ _ _ h => h) (fun _ _ _ _ _ h => h) (fun i m => m.length ≤ i ∧ ∀ c ∈ m, 0 ≤ c) ⟨Nat.le_refl _, by simp⟩ (fun H4 sm4 => SqL.of (sm4 _ _ hD2)) ?_ ?_
        · rintro i x4 H4 H5 m hi sm4 - ⟨hm1, hm2⟩ ⟨rfl, hx⟩ A B hA hB
          obtain ⟨c, rfl, _⟩ := mem_ints hx
          refine ⟨rfl, ?_⟩
          refine ⟨_, rfl, _, _, rfl, rfl, ⟨by decide, by decide, by decide⟩, _, _, rfl, rfl, _, rfl, ite_dec (fun hc => ?_) (fun hc => ?_)⟩
          · refine ⟨_, rfl, hA _ _ _ (Same.refl _) rfl ⟨by rw [List.length_append]; exact Nat.succ_le_succ hm1, fun z hz => ?_⟩⟩
            rcases List.mem_append.mp hz with hz | hz
            · exact hm2 _ hz
            · rw [List.mem_singleton.mp hz]
              have : (0 : Int) ≤ 10 ^ (18 : Int).toNat := by decide
              omega
          · exact hB _ (Same.refl _) ⟨Nat.le_succ_of_le hm1, hm2⟩
        · rintro H4 us m sm4 hD4 hE4 ⟨hm1, hm2⟩
          have e4 := hE4.ints
          subst e4
          rw [List.length_map] at hm1
          refine ⟨D2, _, rfl, SqL.of hD4, fun r hr4 => ?_⟩
          rw [← List.map_reverse]
          have s5 := same_new (o := .lst (m.reverse.map V.int)) hr4
          refine ⟨_, rfl, (by show 2 ≤ sizeLine; decide), fun t ht => ?_⟩
          have s6 := same_new (o := .lst [.ref r, .int st]) ht
          have stot : Same H H4 := (s1.trans sm).trans sm4
          have ntr : t ≠ r := fun e => by rw [e, upd_same] at ht; cases ht
          refine k t r _ ((stot.trans s5).free ht) (stot.free hr4) ((stot.trans s5).trans s6) ⟨m.reverse, st, upd_same, ?_, fun c hc => hm2 c (List.mem_reverse.mp hc), by rw [List.length_reverse]; omega, h0, h1⟩
          rw [upd_ne ntr.symm, upd_same]
end
end K40

namespace K40
open PySem PySem.Spec PyProof.Rows L2 Hl Vl
/-- plain values -/
inductive Pl : D → Prop
  | non : Pl .non
  | bl (b : Bool) : Pl (.bl b)
  | int (i : Int) : Pl (.int i)
  | str (z : Str) : Pl (.str z)
  | tup (l : List D) : Pl (.tup l)
  | lst (l : List D) : Pl (.lst l)
def isI : D → Bool
  | .int _ => true
  | _ => false
def isNum (m : Int) : D → Bool
  | .int i => decide (0 ≤ i) && decide (i ≤ m)
  | _ => false
theorem is_intP_iff {v : D} {Q : D → Prop} (h : Pl v) : W_is_integer [v] Q ↔ Q (.bl (isI v)) := by
  cases h <;> simp [W_is_integer, isI]
theorem is_numP_iff {v : D} {m : Int} {Q : D → Prop} (h : Pl v) : W_is_number [v, .int m] Q ↔ Q (.bl (isNum m v)) := by
  cases h <;> simp [W_is_number, is_intP_iff, Pl.non, Pl.bl, Pl.int, Pl.str, Pl.tup, Pl.lst, isI, isNum]
  rename_i i
  by_cases h0 : 0 ≤ i
  · have : ¬ i < 0 := by omega
    simp [h0, this]
  · have : i < 0 := by omega
    simp [h0, this]
@[simp] theorem is_number_iff {i m : Int} {Q : D → Prop} : W_is_number [.int i, .int m] Q ↔ Q (.bl (decide (0 ≤ i) && decide (i ≤ m))) := is_numP_iff (.int i)
@[simp] theorem is_seq_tup {l : List D} {Q : D → Prop} : W_is_sequence [.tup l] Q ↔ Q (.bl true) := by simp [W_is_sequence]
@[simp] theorem is_seq_lst {l : List D} {Q : D → Prop} : W_is_sequence [.lst l] Q ↔ Q (.bl true) := by simp [W_is_sequence]
theorem lt_ext {a b : List Int} (ha : a.Pairwise (· < ·)) (hb : b.Pairwise (· < ·)) (h : ∀ x, x ∈ a ↔ x ∈ b) : a = b :=
  perm_sorted_eq ((List.perm_ext_iff_of_nodup (nodup_of_lt ha) (nodup_of_lt hb)).2 h) (ha.imp fun h => by omega) (hb.imp fun h => by omega)
def ascB : List Int → Bool
  | [] => true
  | [_] => true
  | a :: b :: l => decide (a < b) && ascB (b :: l)
theorem ascB_iff : ∀ {l : List Int}, ascB l = true ↔ l.Pairwise (· < ·)
  | [] => by simp [ascB]
  | [_] => by simp [ascB]
  | a :: b :: l => by
    rw [ascB, Bool.and_eq_true, decide_eq_true_eq, ascB_iff, List.pairwise_cons (a := a)]
    constructor
    · rintro ⟨h1, h2⟩
      refine ⟨fun x hx => ?_, h2⟩
      rcases List.mem_cons.1 hx with rfl | hx
      · exact h1
      · have := (List.pairwise_cons.1 h2).1 x hx; omega
    · rintro ⟨h1, h2⟩
      exact ⟨h1 b (List.mem_cons_self ..), h2⟩
theorem asc_all : ∀ {l : List Int}, ((List.range (l.length - 1)).map fun i => decide (l.getD i 0 < l.getD (i + 1) 0)).all id = ascB l
  | [] => rfl
  | [_] => rfl
  | a :: b :: l => by
    rw [ascB, ← asc_all]
    show ((List.range (l.length + 1)).map _).all id = _
    rw [List.range_succ_eq_map, List.map_cons, List.all_cons, List.map_map]
    congr 1
theorem is_ascending_ok {l : List Int} {Q : D → Prop} (hz : l.length ≤ 100000) (h : Q (.bl (ascB l))) : W_is_ascending [tI l] Q := by
  simp [W_is_ascending]
  refine ⟨by omega, ?_⟩
  have en : ((l.length : Int) - 1).toNat = l.length - 1 := by omega
  try rw [en]
  rw [rgD_map]
  refine lc_m (fun i : Nat => D.int ((1 : Int) + (i : Nat))) (fun i => D.bl (decide (l.getD i 0 < l.getD (i + 1) 0))) _ (fun i hi A B k1 => ?_) rfl (by rw [sizeLine_eq]; simp; omega) ?_
  · have hi' := List.mem_range.1 hi
    have e1 : ((1 : Int) + i - 1) = (i : Nat) := by omega
    have e2 : ((1 : Int) + i) = ((i + 1 : Nat) : Int) := by omega
    have a1 : atI (l.map D.int) (i : Int) = some (.int (l.getD i 0)) := atI_nat (by rw [List.getElem?_map, List.getD_eq_getElem?_getD, List.getElem?_eq_getElem (by omega : i < l.length)]; rfl)
    have a2 : atI (l.map D.int) ((i + 1 : Nat) : Int) = some (.int (l.getD (i + 1) 0)) := atI_nat (by rw [List.getElem?_map, List.getD_eq_getElem?_getD, List.getElem?_eq_getElem (by omega : i + 1 < l.length)]; rfl)
    rw [Int.natCast_add] at a2
    simp [e1, e2] at k1 ⊢
    simp at a1 a2
    simp [a1, a2]
    exact k1
  have := @asc_all l
  simp only [wCB, gAll, blsO_mapb, oK_some]
  rw [← asc_all] at h
  simpa using h
/-! draws -/
theorem pick_D {l : List D} {Q : D → Prop} (h0 : 0 < l.length) (hz : l.length ≤ 100000) (h : ∀ x ∈ l, Q x) : W__law_pick [.hnd, .lst l] Q := by
  simp [W__law_pick]
  refine ⟨h0, by omega, fun r r0 r1 => ?_⟩
  obtain ⟨x, hx, e⟩ := atI_pickD r0 r1
  rw [e]
  exact h x hx
theorem eraseIdxD {l : List D} {i : Nat} (h : i < l.length) : (l[i] :: l.eraseIdx i).Perm l := perm_erase h
theorem mix_loop {D' : EV} {c1 : Cell} : ∀ (n : Nat) {lo : Int} {lf fo : List D} {c4 : Cell}, lf.length = n → lf.length + fo.length ≤ 10000 →
    (∀ (lf' : List D) (fo' : List D) (d4 : Cell), fo'.Perm (lf ++ fo) → D'.nx [.val .hnd, c1, .own lf', .own fo', d4]) →
    forV (gV 4) W__law_mixed_L1 (rgD lo n) D' [.val .hnd, c1, .own lf, .own fo, c4]
  | 0, lo, lf, fo, c5, h1, _, h => by
    have : lf = [] := List.length_eq_zero_iff.1 h1
    subst this
    exact h _ _ _ (by simp)
  | n + 1, lo, lf, fo, c5, h1, h2, h => by
    rw [rgD_succ, for_cons]
    generalize hF : forV (gV 4) W__law_mixed_L1 (rgD (lo + 1) n) D' = F
    have z : fo.length < sizeLine := lt_sz (by omega)
    simp [W__law_mixed_L1]
    refine ⟨by omega, by omega, fun r r0 r1 => ⟨by omega, ?_⟩⟩
    obtain ⟨i, rfl⟩ : ∃ i : Nat, r = i := ⟨r.toNat, by omega⟩
    have hi : i < lf.length := by omega
    have es : seqIndex? (i : Int) lf.length = some i := by
      have : ¬ ((i : Int) < 0) := by omega
      unfold seqIndex?
      simp [hi, this]
    have hp := perm_erase hi
    have ele : (lf.eraseIdx i).length = lf.length - 1 := List.length_eraseIdx_of_lt hi
    simp [es, hi, z]
    rw [← hF]
    have hperm : (lf.eraseIdx i ++ (fo ++ [lf[i]])).Perm (lf ++ fo) := by
      have h1 : (lf.eraseIdx i ++ (fo ++ [lf[i]])).Perm (lf.eraseIdx i ++ ([lf[i]] ++ fo)) := List.Perm.append_left _ List.perm_append_comm
      refine h1.trans ?_
      rw [← List.append_assoc]
      refine List.Perm.append_right _ (List.perm_append_comm.trans hp)
    refine mix_loop n (by omega) (by simp; omega) fun lf' fo' d5 g1 => h lf' fo' d5 (g1.trans hperm)
theorem mixed_ok {pool : List D} {Q : D → Prop} (hz : pool.length ≤ 1000) (h : ∀ l : List D, l.Perm pool → Q (.tup l)) : W__law_mixed [.hnd, .lst pool] Q := by
  simp [W__law_mixed, -forV]
  refine ⟨by omega, ?_⟩
  refine mix_loop pool.length (lf := pool) (fo := []) rfl (by simp; omega) fun lf' fo' d5 g1 => ?_
  simp at g1 ⊢
  exact h fo' g1
end K40

namespace K40
open PySem PySem.Spec PyProof.Rows L2 Hl Vl
def prL : Nat → List D → List D
  | _, [] => []
  | i, d :: r => prI i d :: prL (i + 1) r
theorem prL_eq : ∀ (i : Nat) (l : List D), l.mapIdx (fun j d => prI (i + j) d) = prL i l
  | i, [] => rfl
  | i, d :: r => by
    rw [List.mapIdx_cons, prL, ← prL_eq (i + 1) r]
    simp [Nat.add_comm, Nat.add_left_comm]
theorem enD_prL (l : List D) : enD l = prL 0 l := by
  rw [← prL_eq]
  simp [enD]
/-- a row as a key -/
def rk (r : List Int) : List Key := r.map Sum.inl
@[simp] theorem keyO_ints : ∀ r : List Int, (r.map D.int).mapM D.keyO = some (rk r)
  | [] => rfl
  | i :: r => by
    rw [List.map_cons, List.mapM_cons, keyO_ints r]
    rfl
@[simp] theorem keyO_intsC (r : List Int) : r.mapM (D.keyO ∘ D.int) = some (rk r) := by
  rw [← keyO_ints, List.mapM_map]
@[simp] theorem rk_inj {a b : List Int} : rk a = rk b ↔ a = b := by
  unfold rk
  constructor
  · intro h
    exact List.map_inj_right (fun a b h => Sum.inl.inj h) |>.1 h
  · intro h; rw [h]
@[simp] theorem kD_rk (r : List Int) : (rk r).map kD = r.map D.int := by
  unfold rk
  rw [List.map_map]
  rfl
/-- a dict of rows: who stands in it -/
def kvR (m : List (List Int × D)) : List (List Key × D) := m.map fun e => (rk e.1, e.2)
def valR (m : List (List Int × D)) (r : List Int) : Option D := (m.find? fun e => decide (e.1 = r)).map (·.2)
@[simp] theorem valDT_kvR (m : List (List Int × D)) (r : List Int) : valDT (kvR m) (rk r) = valR m r := by
  unfold valDT kvR valR
  induction m with
  | nil => rfl
  | cons e m ih =>
    rw [List.map_cons, List.find?_cons, List.find?_cons]
    by_cases h : e.1 = r
    · simp [h]
    · have : ¬ rk e.1 = rk r := fun z => h (rk_inj.1 z)
      simp only [h, this, decide_false]
      exact ih
@[simp] theorem kvR_len (m : List (List Int × D)) : (kvR m).length = m.length := by simp [kvR]
def putR (m : List (List Int × D)) (r : List Int) (v : D) : List (List Int × D) :=
  if (m.any fun e => decide (e.1 = r)) = true then m.map (fun e => if e.1 = r then (e.1, v) else e) else m ++ [(r, v)]
@[simp] theorem putDT_kvR (m : List (List Int × D)) (r : List Int) (v : D) : putDT (kvR m) (rk r) v = kvR (putR m r v) := by
  unfold putDT putR
  have e : ((kvR m).any fun kv => decide (kv.1 = rk r)) = (m.any fun e => decide (e.1 = r)) := by
    unfold kvR
    rw [List.any_map]
    congr 1
    funext e
    simp
  rw [e]
  split
  · unfold kvR
    rw [List.map_map, List.map_map]
    congr 1
    funext e
    by_cases h : e.1 = r <;> simp [h]
  · unfold kvR
    rw [List.map_append]
    rfl
theorem valR_some {m : List (List Int × D)} {r : List Int} : (valR m r).isSome = true ↔ r ∈ m.map (·.1) := by
  unfold valR
  rw [Option.isSome_map, List.find?_isSome]
  simp
theorem valR_none {m : List (List Int × D)} {r : List Int} (h : r ∉ m.map (·.1)) : valR m r = none := by
  cases e : valR m r with
  | none => rfl
  | some d => exact absurd (valR_some.1 (by rw [e]; rfl)) h
theorem putR_new {m : List (List Int × D)} {r : List Int} {v : D} (h : r ∉ m.map (·.1)) : putR m r v = m ++ [(r, v)] := by
  unfold putR
  rw [if_neg]
  intro z
  rw [List.any_eq_true] at z
  obtain ⟨e, h1, h2⟩ := z
  exact h (List.mem_map.2 ⟨e, h1, of_decide_eq_true h2⟩)
theorem putR_keys {m : List (List Int × D)} {r : List Int} {v : D} : (putR m r v).map (·.1) = if r ∈ m.map (·.1) then m.map (·.1) else m.map (·.1) ++ [r] := by
  by_cases h : r ∈ m.map (·.1)
  · rw [if_pos h]
    unfold putR
    rw [if_pos]
    · rw [List.map_map]
      congr 1
      funext e
      by_cases h : e.1 = r <;> simp [h]
    · obtain ⟨e, h1, h2⟩ := List.mem_map.1 h
      exact List.any_eq_true.2 ⟨e, h1, decide_eq_true h2⟩
  · rw [if_neg h, putR_new h]
    simp
/-! keepings -/
def keepFs (s : Int) (rows : List (List Int)) : List (Str × D) := [("states", .int s), ("rows", .tup (rows.map tI))]
abbrev keepO (s : Int) (rows : List (List Int)) : D := .obj "Keeping" (keepFs s rows)
@[simp] theorem keep_s {s : Int} {rows : List (List Int)} : (keepFs s rows).lookup (Str.ofString "states") = some (.int s) := by rfl
@[simp] theorem keep_r {s : Int} {rows : List (List Int)} : (keepFs s rows).lookup (Str.ofString "rows") = some (.tup (rows.map tI)) := by rfl
structure Kp (s : Int) (h : Nat) (rows : List (List Int)) : Prop where
  s2 : 2 ≤ s
  s12 : s ≤ 12
  n1 : 1 ≤ rows.length
  n128 : rows.length ≤ 128
  h1 : 1 ≤ h
  h12 : h ≤ 12
  nd : rows.Nodup
  len : ∀ r ∈ rows, r.length = h
  st : ∀ r ∈ rows, ∀ x ∈ r, 0 ≤ x ∧ x < s
theorem Kp.row {s : Int} {h : Nat} {rows : List (List Int)} (k : Kp s h rows) {i : Nat} (hi : i < rows.length) : rows[i].length = h := k.len _ (List.getElem_mem hi)
section
variable {s : Int} {h : Nat} {rows : List (List Int)} {X : D}
theorem Kp.hd (k : Kp s h rows) : ∃ a t, rows = a :: t ∧ a.length = h := by
  cases rows with
  | nil => exact absurd k.n1 (by simp)
  | cons a t => exact ⟨a, t, rfl, k.len a (List.mem_cons_self ..)⟩
theorem state_row_ok (k : Kp s h rows) (hX : X = .tup (rows.map tI) ∨ X = .lst (rows.map tI)) {r : List Int} (hr : r ∈ rows) {Q : D → Prop} (q : Q (.bl true)) : W_is_state_row [.int s, X, tI r] Q := by
  obtain ⟨a, t, e, ha⟩ := k.hd
  have l1 := k.len r hr
  have l2 := k.h1
  have l3 := k.h12
  have hz : r.length ≤ sizeLine := le_sz (by omega)
  have c1 : (1 : Int) ≤ (r.length : Int) := by omega
  have c2 : (r.length : Int) ≤ 12 := by omega
  have c3 : (a.length : Int) = (r.length : Int) := by omega
  have fin : lcV (gV 3) wYes (wCall W_is_number [] (wCons (wSl 3) (wCons (wOf (wOp gSub (wSl 0) (wOf (wC (.int 1))))) wNil))) [3] (r.map D.int) [] [.val (.int s), .val X, .val (tI r), .no] fun l ρ => wCB gAll (wCons (wOf (wC (.lst l))) wNil) ρ fun d _ => Q d := by
    refine lc_m D.int (fun _ => D.bl true) r (fun x hx A B k1 => ?_) rfl hz ?_
    · have := k.st r hr x hx
      have h2 : x ≤ s - 1 := by omega
      simp [this.1, h2] at k1 ⊢
      exact k1
    · have e : (r.all fun _ => true) = true := List.all_eq_true.2 fun _ _ => rfl
      simp [e]
      exact q
  subst e
  rcases hX with rfl | rfl
  all_goals
    simp [W_is_state_row, c1, c2, c3] at fin ⊢
    exact fin
end
end K40

namespace K40
open PySem PySem.Spec PyProof.Rows L2 Hl Vl
section
variable {s : Int} {h : Nat} {rows : List (List Int)} {X : D}
theorem keep_loop (k : Kp s h rows) (hX : X = .tup (rows.map tI) ∨ X = .lst (rows.map tI)) {D' : EV} {c0 : Cell} : ∀ (rest : List (List Int)) {m : List (List Int × D)} {c4 c5 : Cell} {i : Nat}, (∀ r ∈ rest, r ∈ rows) → rest.Nodup → (∀ r ∈ rest, r ∉ m.map (·.1)) → m.length + rest.length ≤ 128 →
    (c5 = .no ∨ ∃ d, c5 = .val d) → (∀ m' d4 d5, (d5 = .no ∨ ∃ d, d5 = .val d) → D'.nx [c0, .val (.int s), .val X, .dit m', d4, d5]) →
    forV (gTupV 2 (gConsV (gV 4) (gConsV (gV 5) gNilV))) W_Keeping_init_L1 (prL i (rest.map tI)) D' [c0, .val (.int s), .val X, .dit (kvR m), c4, c5]
  | [], m, c4, c5, i, _, _, _, _, hc, q => q _ _ _ hc
  | r :: rest, m, c4, c5, i, h1, h2, h3, h4, hc, q => by
    rw [List.map_cons, prL, for_cons]
    generalize hF : forV (gTupV 2 (gConsV (gV 4) (gConsV (gV 5) gNilV))) W_Keeping_init_L1 (prL (i + 1) (rest.map tI)) D' = F
    have hn : valR m r = none := valR_none (h3 r (List.mem_cons_self ..))
    have hz : m.length < sizeLine := lt_sz (by simp at h4; omega)
    have nx : F [c0, .val (.int s), .val X, .dit (kvR (m ++ [(r, .int i)])), .val (.int i), .val (tI r)] := by
      rw [← hF]
      refine keep_loop k hX rest (fun x hx => h1 x (List.mem_cons_of_mem _ hx)) (List.nodup_cons.1 h2).2 (fun x hx => ?_) (by simp at h4 ⊢; omega) (.inr ⟨_, rfl⟩) q
      intro z
      rw [List.map_append, List.mem_append] at z
      rcases z with z | z
      · exact h3 x (List.mem_cons_of_mem _ hx) z
      · have : x = r := by simpa using z
        subst this
        exact (List.nodup_cons.1 h2).1 hx
    simp [prI, W_Keeping_init_L1]
    refine state_row_ok k hX (h1 r (List.mem_cons_self ..)) ?_
    have e : (valDT (kvR m) (rk r)).isSome = false := by rw [valDT_kvR, hn]; rfl
    simp [hn, hz, putR_new (h3 r (List.mem_cons_self ..))]
    exact nx
theorem keeping_ok {P : List (Str × D) → Prop} (k : Kp s h rows) (hX : X = .tup (rows.map tI) ∨ X = .lst (rows.map tI)) (q : P (keepFs s rows)) : W_Keeping_init [.int s, X] P := by
  have a0 : 0 ≤ s := by have := k.s2; omega
  have a1 : ¬ s < 2 := by have := k.s2; omega
  have a2 := k.s12
  have a3 : ¬ rows.length = 0 := by have := k.n1; omega
  have a4 : (1 : Int) ≤ (rows.length : Int) := by have := k.n1; omega
  have a5 : (rows.length : Int) ≤ 128 := by have := k.n128; omega
  simp only [W_Keeping_init, wInit]
  refine ⟨rfl, fun p => ?_⟩
  have L : ∀ {D' : EV}, (∀ m' d4 d5, (d5 = .no ∨ ∃ d, d5 = .val d) → D'.nx [.obj p "Keeping" [], .val (.int s), .val X, .dit m', d4, d5]) → forV (gTupV 2 (gConsV (gV 4) (gConsV (gV 5) gNilV))) W_Keeping_init_L1 (enD (rows.map tI)) D' [.obj p "Keeping" [], .val (.int s), .val X, .dit [], .no, .no] := fun {D'} q => by
    rw [enD_prL]
    exact keep_loop k hX rows (m := []) (fun _ h => h) k.nd (fun _ _ z => by simp at z) (by simp; exact k.n128) (.inl rfl) q
  have hz : rows.length ≤ sizeLine := le_sz (by have := k.n128; omega)
  rcases hX with rfl | rfl
  all_goals
    simp [-putD, -forV, -lcV, a0, a1, a2, a4, a5]
    refine L fun m' d4 d5 hd => ?_
    rcases hd with rfl | ⟨d, rfl⟩
    all_goals
      simp [-putD, -lcV]
      first
      | refine lc_m (ρ := [.obj p "Keeping" (putD "states" (.int s) []), .val (.int s), .val (.tup (rows.map tI)), .dit m', d4, .no]) tI tI rows (fun x hx A B k1 => ?_) rfl hz ?_
      | refine lc_m (ρ := [.obj p "Keeping" (putD "states" (.int s) []), .val (.int s), .val (.lst (rows.map tI)), .dit m', d4, .no]) tI tI rows (fun x hx A B k1 => ?_) rfl hz ?_
      · simpa using k1
      · simp [-putD]
        exact ⟨by show 1 < 1000; decide, q⟩
end
end K40

namespace K40
open PySem PySem.Spec PyProof.Rows L2 Hl Vl
def atZ (a : List Int) (x : Int) : Int := a.getD x.toNat 0
def rowN (rows : List (List Int)) (i : Nat) : List Int := rows.getD i []
/-- the houses at which two rows differ -/
def unl (a b H : List Int) : List Int := H.filter fun x => decide (¬ atZ a x = atZ b x)
structure Hs (h : Nat) (H : List Int) : Prop where
  asc : H.Pairwise (· < ·)
  rg : ∀ x ∈ H, 0 ≤ x ∧ x < h
  sm : H.length ≤ 24
theorem at_row {a : List Int} {x : Int} (h0 : 0 ≤ x) (h1 : x < a.length) : atI (a.map D.int) x = some (.int (atZ a x)) := by
  refine atI_nat' h0 ?_
  rw [List.getElem?_map, atZ, List.getD_eq_getElem?_getD, List.getElem?_eq_getElem (by omega : x.toNat < a.length)]
  rfl
section
variable {s : Int} {h : Nat} {rows : List (List Int)} {H : List Int}
theorem at_rows {i : Nat} (hi : i < rows.length) : atI (rows.map tI) (i : Int) = some (tI (rowN rows i)) := by
  refine atI_nat ?_
  rw [List.getElem?_map, rowN, List.getD_eq_getElem?_getD, List.getElem?_eq_getElem hi]
  rfl
theorem Kp.getD (k : Kp s h rows) {i : Nat} (hi : i < rows.length) : rowN rows i ∈ rows := by
  rw [rowN, List.getD_eq_getElem?_getD, List.getElem?_eq_getElem hi]
  exact List.getElem_mem hi
theorem Kp.lenD (k : Kp s h rows) {i : Nat} (hi : i < rows.length) : (rowN rows i).length = h := k.len _ (k.getD hi)
theorem unlike_at_ok (k : Kp s h rows) (hH : Hs h H) {i j : Nat} (hi : i < rows.length) (hj : j < rows.length) {Q : D → Prop} (q : Q (tI (unl (rowN rows i) (rowN rows j) H))) : W_unlike_at [keepO s rows, .int i, .int j, tI H] Q := by
  have e1 := at_rows hi
  have e2 := at_rows hj
  have l1 := k.lenD hi
  have l2 := k.lenD hj
  generalize rowN rows i = a at *
  generalize rowN rows j = b at *
  have s2 : (2 : Nat) ≤ sizeLine := by decide
  simp [W_unlike_at, e1, e2, s2, -lcV]
  refine lc_v D.int (fun x => decide (¬ atZ a x = atZ b x)) D.int H [] (fun x hx A B h1 h2 => ?_) rfl (by have := hH.sm; simp; exact le_sz (by omega)) ?_
  · obtain ⟨x0, x1⟩ := hH.rg x hx
    simp [at_row x0 (by omega : x < a.length), at_row x0 (by omega : x < b.length)] at h1 h2 ⊢
    exact ⟨h1, h2⟩
  · simpa [unl] using q
def seen (i j a b : Nat) : Prop := a < i ∨ (a = i ∧ b < j)
abbrev Dist := Nat → Nat → Nat
structure Bst (n : Nat) (d : Dist) (i j : Nat) (best : Option (Nat × Nat × Nat)) : Prop where
  non : best = none → ∀ a b, a < b → b < n → ¬ seen i j a b
  som : ∀ m x y, best = some (m, x, y) → x < y ∧ y < n ∧ m = d x y ∧ ∀ a b, a < b → b < n → seen i j a b → m ≤ d a b
def stp (d : Dist) (i j : Nat) : Option (Nat × Nat × Nat) → Option (Nat × Nat × Nat)
  | none => some (d i j, i, j)
  | some (m, x, y) => if d i j < m then some (d i j, i, j) else some (m, x, y)
theorem Bst.step {n : Nat} {d : Dist} {i j : Nat} {best : Option (Nat × Nat × Nat)} (B : Bst n d i j best) (h1 : i < j) (h2 : j < n) : Bst n d i (j + 1) (stp d i j best) := by
  have sp : ∀ {a b : Nat}, seen i (j + 1) a b → seen i j a b ∨ (a = i ∧ b = j) := fun {a b} h => by
    rcases h with h | ⟨h, h'⟩
    · exact .inl (.inl h)
    · by_cases e : b = j
      · exact .inr ⟨h, e⟩
      · exact .inl (.inr ⟨h, by omega⟩)
  cases best with
  | none =>
    refine ⟨fun h => (by cases h), fun m x y h => ?_⟩
    simp only [stp, Option.some.injEq, Prod.mk.injEq] at h
    obtain ⟨rfl, rfl, rfl⟩ := h
    refine ⟨h1, h2, rfl, fun a b h3 h4 h5 => ?_⟩
    rcases sp h5 with h6 | ⟨rfl, rfl⟩
    · exact absurd h6 (B.non rfl a b h3 h4)
    · exact Nat.le_refl _
  | some t =>
    obtain ⟨m0, x0, y0⟩ := t
    obtain ⟨b1, b2, b3, b4⟩ := B.som m0 x0 y0 rfl
    have es : stp d i j (some (m0, x0, y0)) = if d i j < m0 then some (d i j, i, j) else some (m0, x0, y0) := rfl
    rw [es]
    by_cases hlt : d i j < m0
    · rw [if_pos hlt]
      refine ⟨fun h => (by cases h), fun m x y h => ?_⟩
      simp only [Option.some.injEq, Prod.mk.injEq] at h
      obtain ⟨rfl, rfl, rfl⟩ := h
      refine ⟨h1, h2, rfl, fun a b h3 h4 h5 => ?_⟩
      rcases sp h5 with h6 | ⟨rfl, rfl⟩
      · have := b4 a b h3 h4 h6; omega
      · exact Nat.le_refl _
    · rw [if_neg hlt]
      refine ⟨fun h => (by cases h), fun m x y h => ?_⟩
      simp only [Option.some.injEq, Prod.mk.injEq] at h
      obtain ⟨rfl, rfl, rfl⟩ := h
      refine ⟨b1, b2, b3, fun a b h3 h4 h5 => ?_⟩
      rcases sp h5 with h6 | ⟨rfl, rfl⟩
      · exact b4 a b h3 h4 h6
      · omega
theorem Bst.next {n : Nat} {d : Dist} {i : Nat} {best : Option (Nat × Nat × Nat)} (B : Bst n d i n best) : Bst n d (i + 1) (i + 2) best := by
  have sp : ∀ {a b : Nat}, a < b → b < n → seen (i + 1) (i + 2) a b → seen i n a b := fun {a b} h1 h2 h => by
    rcases h with h | ⟨h, h'⟩
    · by_cases e : a = i
      · exact .inr ⟨e, h2⟩
      · exact .inl (by omega)
    · omega
  exact ⟨fun e a b h1 h2 h => B.non e a b h1 h2 (sp h1 h2 h), fun m x y e => by
    obtain ⟨b1, b2, b3, b4⟩ := B.som m x y e
    exact ⟨b1, b2, b3, fun a b h1 h2 h => b4 a b h1 h2 (sp h1 h2 h)⟩⟩
def bD : Option (Nat × Nat × Nat) → D
  | none => .non
  | some (m, x, y) => .tup [.int m, .int x, .int y]
def dst (rows : List (List Int)) (H : List Int) : Dist := fun i j => (unl (rowN rows i) (rowN rows j) H).length
theorem twins_in (k : Kp s h rows) (hH : Hs h H) {D' : EV} {i : Nat} (hi : i < rows.length) : ∀ (n : Nat) {j : Nat} {best : Option (Nat × Nat × Nat)} {c4 c5 : Cell}, n = rows.length - j → i < j → j ≤ rows.length → Bst rows.length (dst rows H) i j best →
    (∀ best' d4 d5, Bst rows.length (dst rows H) i rows.length best' → D'.nx [.val (keepO s rows), .val (tI H), .val (bD best'), .val (.int i), d4, d5]) →
    forV (gV 4) W_twins_L1 (rgD (j : Int) n) D' [.val (keepO s rows), .val (tI H), .val (bD best), .val (.int i), c4, c5]
  | 0, j, best, c4, c5, hn, hj, hl, B, q => by
    have : j = rows.length := by omega
    subst this
    exact q _ _ _ B
  | n + 1, j, best, c4, c5, hn, hj, hl, B, q => by
    rw [rgD_succ, for_cons]
    have hj2 : j < rows.length := by omega
    have nx : ∀ d4 d5, forV (gV 4) W_twins_L1 (rgD ((j : Int) + 1) n) D' [.val (keepO s rows), .val (tI H), .val (bD (stp (dst rows H) i j best)), .val (.int i), d4, d5] := fun d4 d5 =>
      twins_in k hH hi n (j := j + 1) (by omega) (by omega) (by omega) (B.step hj hj2) q
    generalize forV (gV 4) W_twins_L1 (rgD ((j : Int) + 1) n) D' = F at *
    simp only [gV, W_twins_L1]
    simp
    refine unlike_at_ok k hH hi hj2 ?_
    have ed : dst rows H i j = (unl (rowN rows i) (rowN rows j) H).length := rfl
    generalize unl (rowN rows i) (rowN rows j) H = u at *
    have s3 : (3 : Nat) ≤ sizeLine := by decide
    cases best with
    | none =>
      simp [bD, stp, ed, s3] at nx ⊢
      exact nx _ _
    | some t =>
      obtain ⟨m, x, y⟩ := t
      by_cases hlt : u.length < m
      · simp [bD, stp, ed, s3, hlt] at nx ⊢
        exact nx _ _
      · simp [bD, stp, ed, s3, hlt] at nx ⊢
        exact nx _ _
theorem twins_out (k : Kp s h rows) (hH : Hs h H) {D' : EV} : ∀ (n : Nat) {i : Nat} {best : Option (Nat × Nat × Nat)} {c3 c4 c5 : Cell}, n = rows.length - i → i ≤ rows.length → Bst rows.length (dst rows H) i (i + 1) best →
    (∀ best' d3 d4 d5, Bst rows.length (dst rows H) rows.length (rows.length + 1) best' → D'.nx [.val (keepO s rows), .val (tI H), .val (bD best'), d3, d4, d5]) →
    forV (gV 3) W_twins_L2 (rgD (i : Int) n) D' [.val (keepO s rows), .val (tI H), .val (bD best), c3, c4, c5]
  | 0, i, best, c3, c4, c5, hn, hl, B, q => by
    have : i = rows.length := by omega
    subst this
    exact q _ _ _ _ B
  | n + 1, i, best, c3, c4, c5, hn, hl, B, q => by
    rw [rgD_succ, for_cons]
    have hi : i < rows.length := by omega
    have nx : ∀ best' d3 d4 d5, Bst rows.length (dst rows H) i rows.length best' → forV (gV 3) W_twins_L2 (rgD ((i : Int) + 1) n) D' [.val (keepO s rows), .val (tI H), .val (bD best'), d3, d4, d5] := fun best' d3 d4 d5 B' =>
      twins_out k hH n (i := i + 1) (by omega) (by omega) B'.next q
    generalize forV (gV 3) W_twins_L2 (rgD ((i : Int) + 1) n) D' = F at *
    have a1 : (i : Int) + 1 < 2 ^ 62 := by have := k.n128; omega
    have a2 : (rows.length : Int) < 2 ^ 62 := by have := k.n128; omega
    simp only [gV, W_twins_L2]
    simp [-forV]
    have en : ((rows.length : Int) - ((i : Int) + 1)).toNat = rows.length - (i + 1) := by omega
    refine ⟨by have := k.n128; omega, ?_⟩
    try rw [en]
    exact twins_in k hH hi (rows.length - (i + 1)) (j := i + 1) rfl (by omega) (by omega) B fun best' d4 d5 B' => nx _ _ _ _ B'
theorem twins_ok (k : Kp s h rows) (hH : Hs h H) {Q : D → Prop} (q1 : rows.length = 1 → Q .non)
    (q2 : ∀ x y : Nat, x < y → y < rows.length → (∀ a b, a < b → b < rows.length → dst rows H x y ≤ dst rows H a b) → Q (.tup [.int x, .int y])) : W_twins [keepO s rows, tI H] Q := by
  simp [W_twins, -forV]
  refine ⟨by have := k.n128; omega, ?_⟩
  refine twins_out k hH rows.length (i := 0) (best := none) rfl (by omega) ⟨fun _ a b h1 h2 h => ?_, fun m x y e => by cases e⟩ fun best' d3 d4 d5 B => ?_
  · rcases h with h | ⟨h, h'⟩ <;> omega
  · cases best' with
    | none =>
      simp [bD]
      refine q1 ?_
      by_cases h1 : rows.length = 1
      · exact h1
      · exact absurd (.inl (by have := k.n1; omega)) (B.non rfl 0 1 (by omega) (by have := k.n1; omega))
    | some t =>
      obtain ⟨m, x, y⟩ := t
      obtain ⟨b1, b2, rfl, b4⟩ := B.som m x y rfl
      simp [bD]
      exact q2 x y b1 b2 fun a b h1 h2 => b4 a b h1 h2 (.inl (by omega))
end
end K40

namespace K40
open PySem PySem.Spec PyProof.Rows L2 Hl Vl
def fD : Option (Nat × Nat × Nat) → D
  | none => .non
  | some (m, _, _) => .int m
section
variable {s : Int} {h : Nat} {rows : List (List Int)} {H : List Int}
theorem least_in (k : Kp s h rows) (hH : Hs h H) {D' : EV} {i : Nat} (hi : i < rows.length) : ∀ (n : Nat) {j : Nat} {best : Option (Nat × Nat × Nat)} {c4 c5 : Cell}, n = rows.length - j → i < j → j ≤ rows.length → Bst rows.length (dst rows H) i j best →
    (∀ best' d4 d5, Bst rows.length (dst rows H) i rows.length best' → D'.nx [.val (.tup (rows.map tI)), .val (tI H), .val (fD best'), .val (.int i), d4, d5, .no]) →
    forV (gV 4) W__law_least_L1 (rgD (j : Int) n) D' [.val (.tup (rows.map tI)), .val (tI H), .val (fD best), .val (.int i), c4, c5, .no]
  | 0, j, best, c4, c5, hn, hj, hl, B, q => by
    have : j = rows.length := by omega
    subst this
    exact q _ _ _ B
  | n + 1, j, best, c4, c5, hn, hj, hl, B, q => by
    rw [rgD_succ, for_cons]
    have hj2 : j < rows.length := by omega
    have nx : ∀ d4 d5, forV (gV 4) W__law_least_L1 (rgD ((j : Int) + 1) n) D' [.val (.tup (rows.map tI)), .val (tI H), .val (fD (stp (dst rows H) i j best)), .val (.int i), d4, d5, .no] := fun d4 d5 =>
      least_in k hH hi n (j := j + 1) (by omega) (by omega) (by omega) (B.step hj hj2) q
    generalize forV (gV 4) W__law_least_L1 (rgD ((j : Int) + 1) n) D' = F at *
    have e1 := at_rows hi
    have e2 := at_rows hj2
    have l1 := k.lenD hi
    have l2 := k.lenD hj2
    have ed : dst rows H i j = (unl (rowN rows i) (rowN rows j) H).length := rfl
    generalize rowN rows i = a at *
    generalize rowN rows j = b at *
    simp only [gV, W__law_least_L1]
    simp [e1, e2, -lcV]
    refine lc_v D.int (fun x => decide (¬ atZ a x = atZ b x)) D.int H [] (fun x hx A B h1 h2 => ?_) rfl (by have := hH.sm; simp; exact le_sz (by omega)) ?_
    · obtain ⟨x0, x1⟩ := hH.rg x hx
      simp [e1, e2, at_row x0 (by omega : x < a.length), at_row x0 (by omega : x < b.length)] at h1 h2 ⊢
      exact ⟨h1, h2⟩
    · have eu : H.filter (fun x => decide (¬ atZ a x = atZ b x)) = unl a b H := rfl
      simp only [List.nil_append, List.length_map, eu]
      generalize unl a b H = u at *
      cases best with
      | none =>
        simp [fD, stp, ed] at nx ⊢
        exact nx _ _
      | some t =>
        obtain ⟨m, x, y⟩ := t
        by_cases hlt : u.length < m
        · simp [fD, stp, ed, hlt] at nx ⊢
          exact nx _ _
        · simp [fD, stp, ed, hlt] at nx ⊢
          exact nx _ _
theorem least_out (k : Kp s h rows) (hH : Hs h H) {D' : EV} : ∀ (n : Nat) {i : Nat} {best : Option (Nat × Nat × Nat)} {c3 c4 c5 : Cell}, n = rows.length - i → i ≤ rows.length → Bst rows.length (dst rows H) i (i + 1) best →
    (∀ best' d3 d4 d5, Bst rows.length (dst rows H) rows.length (rows.length + 1) best' → D'.nx [.val (.tup (rows.map tI)), .val (tI H), .val (fD best'), d3, d4, d5, .no]) →
    forV (gV 3) W__law_least_L2 (rgD (i : Int) n) D' [.val (.tup (rows.map tI)), .val (tI H), .val (fD best), c3, c4, c5, .no]
  | 0, i, best, c3, c4, c5, hn, hl, B, q => by
    have : i = rows.length := by omega
    subst this
    exact q _ _ _ _ B
  | n + 1, i, best, c3, c4, c5, hn, hl, B, q => by
    rw [rgD_succ, for_cons]
    have hi : i < rows.length := by omega
    have nx : ∀ best' d3 d4 d5, Bst rows.length (dst rows H) i rows.length best' → forV (gV 3) W__law_least_L2 (rgD ((i : Int) + 1) n) D' [.val (.tup (rows.map tI)), .val (tI H), .val (fD best'), d3, d4, d5, .no] := fun best' d3 d4 d5 B' =>
      least_out k hH n (i := i + 1) (by omega) (by omega) B'.next q
    generalize forV (gV 3) W__law_least_L2 (rgD ((i : Int) + 1) n) D' = F at *
    simp only [gV, W__law_least_L2]
    simp [-forV]
    have en : ((rows.length : Int) - ((i : Int) + 1)).toNat = rows.length - (i + 1) := by omega
    refine ⟨by have := k.n128; omega, ?_⟩
    try rw [en]
    exact least_in k hH hi (rows.length - (i + 1)) (j := i + 1) rfl (by omega) (by omega) B fun best' d4 d5 B' => nx _ _ _ _ B'
/-- the least number of houses at which two values differ -/
def IsLeast (rows : List (List Int)) (H : List Int) (o : Option Nat) : Prop :=
  (o = none ∧ rows.length = 1) ∨ ∃ x y, x < y ∧ y < rows.length ∧ o = some (dst rows H x y) ∧ ∀ a b, a < b → b < rows.length → dst rows H x y ≤ dst rows H a b
theorem IsLeast.uniq {o o' : Option Nat} (a : IsLeast rows H o) (b : IsLeast rows H o') : o = o' := by
  rcases a with ⟨e, h1⟩ | ⟨x, y, h1, h2, e, h3⟩ <;> rcases b with ⟨e', k1⟩ | ⟨x', y', k1, k2, e', k3⟩
  · rw [e, e']
  · omega
  · omega
  · rw [e, e', Nat.le_antisymm (h3 _ _ k1 k2) (k3 _ _ h1 h2)]
def oD : Option Nat → D
  | none => .non
  | some m => .int m
theorem law_least_ok (k : Kp s h rows) (hH : Hs h H) {Q : D → Prop} (q : ∀ o, IsLeast rows H o → Q (oD o)) : W__law_least [.tup (rows.map tI), tI H] Q := by
  simp [W__law_least, -forV]
  refine ⟨by have := k.n128; omega, ?_⟩
  refine least_out k hH rows.length (i := 0) (best := none) rfl (by omega) ⟨fun _ a b h1 h2 h => ?_, fun m x y e => by cases e⟩ fun best' d3 d4 d5 B => ?_
  · rcases h with h | ⟨h, h'⟩ <;> omega
  · cases best' with
    | none =>
      simp [fD]
      refine q none (.inl ⟨rfl, ?_⟩)
      by_cases h1 : rows.length = 1
      · exact h1
      · exact absurd (.inl (by have := k.n1; omega)) (B.non rfl 0 1 (by omega) (by have := k.n1; omega))
    | some t =>
      obtain ⟨m, x, y⟩ := t
      obtain ⟨b1, b2, rfl, b4⟩ := B.som m x y rfl
      simp [fD]
      exact q (some _) (.inr ⟨x, y, b1, b2, rfl, fun a b h1 h2 => b4 a b h1 h2 (.inl (by omega))⟩)
theorem least_unlike_ok (k : Kp s h rows) (hH : Hs h H) {Q : D → Prop} (q : ∀ o, IsLeast rows H o → Q (oD o)) : W_least_unlike [keepO s rows, tI H] Q := by
  simp [W_least_unlike]
  refine twins_ok k hH (fun h1 => ?_) fun x y h1 h2 h3 => ?_
  · simp
    exact q none (.inl ⟨rfl, h1⟩)
  · simp
    refine unlike_at_ok k hH (by omega) h2 ?_
    simp
    exact q (some _) (.inr ⟨x, y, h1, h2, rfl, h3⟩)
def need (f : Nat) (sg : Bool) : Nat := if sg then f else 2 * f
theorem lies_needed_ok {f : Nat} {sg : Bool} (hf : f ≤ 1000) {Q : D → Prop} (q : Q (.int (need f sg))) : W_lies_needed [.int f, .bl sg] Q := by
  cases sg with
  | true => simpa [W_lies_needed, need] using q
  | false =>
    simp [W_lies_needed, need] at q ⊢
    exact ⟨mul_small (by decide) (by omega), q⟩
theorem is_readable_ok (k : Kp s h rows) (hH : Hs h H) {f : Nat} {sg : Bool} (hf : f ≤ 1000) {o : Option Nat} (ho : IsLeast rows H o) {Q : D → Prop} (q : Q (.bl (match o with | none => true | some m => decide (need f sg < m)))) : W_is_readable [keepO s rows, tI H, .int f, .bl sg] Q := by
  simp [W_is_readable]
  refine least_unlike_ok k hH fun o' h' => ?_
  cases IsLeast.uniq ho h'
  cases o with
  | none =>
    simp [oD] at q ⊢
    exact q
  | some m =>
    simp [oD]
    refine lies_needed_ok hf ?_
    simpa using q
end
end K40

namespace K40
open PySem PySem.Spec PyProof.Rows L2 Hl Vl
def stD : Option Int → D
  | none => .non
  | some x => .int x
/-- how many houses lie -/
def liesF (sg : Bool) (a : List Int) : List Int → List (Option Int) → Nat → Option Nat
  | x :: H, none :: S, n => liesF sg a H S (n + 1)
  | x :: H, some c :: S, n => if c = atZ a x then liesF sg a H S n else if sg then none else liesF sg a H S (n + 1)
  | _, _, n => some n
section
variable {s : Int} {h : Nat} {rows : List (List Int)} {H : List Int}
theorem lies_loop {sg : Bool} {a : List Int} (ha : a.length = h) {D' : EV} {c0 c1 c2 c3 : Cell} : ∀ (H : List Int) (S : List (Option Int)) {n : Nat} {c7 c8 : Cell}, (∀ x ∈ H, 0 ≤ x ∧ x < h) → H.length + n ≤ 1000 →
    (liesF sg a H S n = none → D'.rt .non) → (∀ m d7 d8, liesF sg a H S n = some m → D'.nx [c0, c1, c2, c3, .val (.bl sg), .val (tI a), .val (.int m), d7, d8]) →
    forV (gTupV 2 (gConsV (gV 7) (gConsV (gV 8) gNilV))) W_lies_in_L1 (zipD (H.map D.int) (S.map stD)) D' [c0, c1, c2, c3, .val (.bl sg), .val (tI a), .val (.int n), c7, c8]
  | [], S, n, c7, c8, h1, h2, q1, q2 => by
    have : zipD (([] : List Int).map D.int) (S.map stD) = [] := by cases S <;> rfl
    rw [this]
    exact q2 n _ _ (by unfold liesF; rfl)
  | x :: H, [], n, c7, c8, h1, h2, q1, q2 => q2 n _ _ (by unfold liesF; rfl)
  | x :: H, o :: S, n, c7, c8, h1, h2, q1, q2 => by
    have hh : ∀ x ∈ H, 0 ≤ x ∧ x < h := fun y hy => h1 y (List.mem_cons_of_mem _ hy)
    obtain ⟨x0, x1⟩ := h1 x (List.mem_cons_self ..)
    have ea := at_row x0 (by omega : x < a.length)
    rw [List.map_cons, List.map_cons, zipD, for_cons]
    have nx0 : (∀ m, liesF sg a H S n = some m → liesF sg a (x :: H) (o :: S) n = some m) → (liesF sg a H S n = none → liesF sg a (x :: H) (o :: S) n = none) → ∀ d7 d8, forV (gTupV 2 (gConsV (gV 7) (gConsV (gV 8) gNilV))) W_lies_in_L1 (zipD (H.map D.int) (S.map stD)) D' [c0, c1, c2, c3, .val (.bl sg), .val (tI a), .val (.int n), d7, d8] := fun e1 e2 d7 d8 =>
      lies_loop ha H S hh (by simp at h2; omega) (fun e => q1 (e2 e)) fun m d7 d8 e => q2 m d7 d8 (e1 m e)
    have nx1 : (∀ m, liesF sg a H S (n + 1) = some m → liesF sg a (x :: H) (o :: S) n = some m) → (liesF sg a H S (n + 1) = none → liesF sg a (x :: H) (o :: S) n = none) → ∀ d7 d8, forV (gTupV 2 (gConsV (gV 7) (gConsV (gV 8) gNilV))) W_lies_in_L1 (zipD (H.map D.int) (S.map stD)) D' [c0, c1, c2, c3, .val (.bl sg), .val (tI a), .val (.int ((n : Int) + 1)), d7, d8] := fun e1 e2 d7 d8 =>
      lies_loop ha H S (n := n + 1) hh (by simp at h2; omega) (fun e => q1 (e2 e)) fun m d7 d8 e => q2 m d7 d8 (e1 m e)
    generalize forV (gTupV 2 (gConsV (gV 7) (gConsV (gV 8) gNilV))) W_lies_in_L1 (zipD (H.map D.int) (S.map stD)) D' = F at *
    cases o with
    | none =>
      simp [W_lies_in_L1, stD]
      exact nx1 (fun m e => by rw [liesF]; exact e) (fun e => by rw [liesF]; exact e) _ _
    | some c =>
      by_cases hc : c = atZ a x
      · subst hc
        simp [W_lies_in_L1, stD, ea]
        exact nx0 (fun m e => by rw [liesF, if_pos rfl]; exact e) (fun e => by rw [liesF, if_pos rfl]; exact e) _ _
      · cases sg with
        | true =>
          simp [W_lies_in_L1, stD, ea, hc]
          exact q1 (by rw [liesF, if_neg hc]; rfl)
        | false =>
          simp [W_lies_in_L1, stD, ea, hc]
          exact nx1 (fun m e => by rw [liesF, if_neg hc]; exact e) (fun e => by rw [liesF, if_neg hc]; exact e) _ _
theorem lies_in_ok (k : Kp s h rows) (hH : Hs h H) {v : Nat} (hv : v < rows.length) {S : List (Option Int)} {sg : Bool} {Q : D → Prop} (q : Q (oD (liesF sg (rowN rows v) H S 0))) : W_lies_in [keepO s rows, .int v, tI H, .tup (S.map stD), .bl sg] Q := by
  have e1 := at_rows hv
  have l1 := k.lenD hv
  generalize rowN rows v = a at *
  simp [W_lies_in, e1, -forV]
  refine lies_loop l1 H S (n := 0) hH.rg (by have := hH.sm; omega) (fun e => ?_) fun m d7 d8 e => ?_
  · rw [e] at q; exact q
  · rw [e] at q
    simpa [oD] using q
def rdB (rows : List (List Int)) (H : List Int) (S : List (Option Int)) (f : Nat) (sg : Bool) (v : Nat) : Bool := match liesF sg (rowN rows v) H S 0 with
  | some m => decide (m ≤ f)
  | none => false
theorem readings_loop (k : Kp s h rows) (hH : Hs h H) {f : Nat} {sg : Bool} {S : List (Option Int)} {D' : EV} : ∀ (n : Nat) {v : Nat} {acc : List Nat} {c6 c7 : Cell}, v + n = rows.length → acc.length ≤ v →
    (∀ d6 d7, D'.nx [.val (keepO s rows), .val (tI H), .val (.tup (S.map stD)), .val (.int f), .val (.bl sg), .own ((acc ++ (List.range' v n).filter (rdB rows H S f sg)).map fun (i : Nat) => D.int i), d6, d7]) →
    forV (gV 6) W_readings_L1 (rgD (v : Int) n) D' [.val (keepO s rows), .val (tI H), .val (.tup (S.map stD)), .val (.int f), .val (.bl sg), .own (acc.map fun (i : Nat) => D.int i), c6, c7]
  | 0, v, acc, c6, c7, h1, h2, q => by
    have := q c6 c7
    rw [rgD_zero, for_nil]
    simpa using this
  | n + 1, v, acc, c6, c7, h1, h2, q => by
    rw [rgD_succ, for_cons]
    have hv : v < rows.length := by omega
    have nx : ∀ acc' d6 d7, acc'.length ≤ v + 1 → acc' ++ (List.range' (v + 1) n).filter (rdB rows H S f sg) = acc ++ (List.range' v (n + 1)).filter (rdB rows H S f sg) → forV (gV 6) W_readings_L1 (rgD ((v : Int) + 1) n) D' [.val (keepO s rows), .val (tI H), .val (.tup (S.map stD)), .val (.int f), .val (.bl sg), .own (acc'.map fun (i : Nat) => D.int i), d6, d7] := fun acc' d6 d7 hl e =>
      readings_loop k hH n (v := v + 1) (by omega) hl fun d6 d7 => by rw [e]; exact q d6 d7
    generalize forV (gV 6) W_readings_L1 (rgD ((v : Int) + 1) n) D' = F at *
    have hz : acc.length < sizeLine := lt_sz (by have := k.n128; omega)
    simp only [gV, W_readings_L1]
    simp
    refine lies_in_ok k hH hv ?_
    have er : List.range' v (n + 1) = v :: List.range' (v + 1) n := List.range'_succ
    have yes : rdB rows H S f sg v = true → F [.val (keepO s rows), .val (tI H), .val (.tup (S.map stD)), .val (.int f), .val (.bl sg), .own ((acc.map fun (i : Nat) => D.int i) ++ [.int v]), .val (.int v), .val (oD (liesF sg (rowN rows v) H S 0))] := fun hb => by
      have := nx (acc ++ [v]) (.val (.int v)) (.val (oD (liesF sg (rowN rows v) H S 0))) (by simp; omega) (by rw [er, List.filter_cons, if_pos hb]; simp)
      simpa using this
    have no : rdB rows H S f sg v = false → F [.val (keepO s rows), .val (tI H), .val (.tup (S.map stD)), .val (.int f), .val (.bl sg), .own (acc.map fun (i : Nat) => D.int i), .val (.int v), .val (oD (liesF sg (rowN rows v) H S 0))] := fun hb =>
      nx acc (.val (.int v)) _ (by omega) (by rw [er, List.filter_cons, if_neg (by rw [hb]; decide)])
    unfold rdB at yes no
    cases e : liesF sg (rowN rows v) H S 0 with
    | none =>
      rw [e] at no
      simp [oD] at no ⊢
      exact no
    | some m =>
      rw [e] at yes no
      by_cases hm : m ≤ f
      · have hm' : (m : Int) ≤ f := by omega
        simp [oD, hm, hz] at yes ⊢
        exact yes
      · have hm' : ¬ (m : Int) ≤ f := by omega
        have hm2 : f < m := by omega
        simp [oD, hm, hm2] at no ⊢
        exact no
def rdL (rows : List (List Int)) (H : List Int) (S : List (Option Int)) (f : Nat) (sg : Bool) : List Nat := (List.range rows.length).filter (rdB rows H S f sg)
theorem readings_ok (k : Kp s h rows) (hH : Hs h H) {f : Nat} {sg : Bool} {S : List (Option Int)} {Q : D → Prop} (q : Q (.tup ((rdL rows H S f sg).map fun (i : Nat) => D.int i))) : W_readings [keepO s rows, tI H, .tup (S.map stD), .int f, .bl sg] Q := by
  simp [W_readings, -forV]
  refine ⟨by have := k.n128; omega, ?_⟩
  refine readings_loop k hH rows.length (v := 0) (acc := []) (by omega) (by simp) fun d6 d7 => ?_
  rw [List.nil_append, ← List.range_eq_range']
  simpa [rdL] using q
theorem only_reading_ok (k : Kp s h rows) (hH : Hs h H) {f : Nat} {sg : Bool} {S : List (Option Int)} {Q : D → Prop} (hl : (rdL rows H S f sg).length ≠ 1) (q : Q .non) : W_only_reading [keepO s rows, tI H, .tup (S.map stD), .int f, .bl sg] Q := by
  simp [W_only_reading]
  refine readings_ok k hH ?_
  have : ¬ ((rdL rows H S f sg).length : Int) = 1 := by omega
  simp [this]
  exact q
end
end K40

namespace K40
open PySem PySem.Spec PyProof.Rows L2 Hl Vl
/-- what is shown at a house -/
def shF (sg : Bool) (a b L O : List Int) (x : Int) : Option Int := if (sg && (decide (x ∈ L) || decide (x ∈ O))) = true then none else some (atZ (if x ∈ L then b else a) x)
def foolFs (a b c d e : D) : List (Str × D) := [("one", a), ("other", b), ("liars", c), ("others", d), ("shown", e)]
section
variable {a b c d e : D}
@[simp] theorem fool_1 : (foolFs a b c d e).lookup (Str.ofString "one") = some a := by rfl
@[simp] theorem fool_2 : (foolFs a b c d e).lookup (Str.ofString "other") = some b := by rfl
@[simp] theorem fool_3 : (foolFs a b c d e).lookup (Str.ofString "liars") = some c := by rfl
@[simp] theorem fool_4 : (foolFs a b c d e).lookup (Str.ofString "others") = some d := by rfl
@[simp] theorem fool_5 : (foolFs a b c d e).lookup (Str.ofString "shown") = some e := by rfl
theorem fooled_make {P : List (Str × D) → Prop} (q : P (foolFs a b c d e)) : W_FooledRuns_init [a, b, c, d, e] P := by
  simp only [W_FooledRuns_init, wInit]
  refine ⟨rfl, fun p => ?_⟩
  simp [-putD]
  exact ⟨(by show 1 < 1000; decide), (by show 2 < 1000; decide), (by show 3 < 1000; decide), (by show 4 < 1000; decide), q⟩
end
section
variable {s : Int} {h : Nat} {rows : List (List Int)} {H : List Int}
theorem shown_loop (k : Kp s h rows) {i j : Nat} (hi : i < rows.length) (hj : j < rows.length) {L O : List Int} {sg : Bool} {D' : EV} {c3 : Cell} : ∀ (H : List Int) {acc : List D} {c8 : Cell}, (∀ x ∈ H, 0 ≤ x ∧ x < h) → acc.length + H.length ≤ 1000 →
    (∀ d8, D'.nx [.val (keepO s rows), .val (.int i), .val (.int j), c3, .val (tI L), .val (tI O), .val (.bl sg), .own (acc ++ (H.map (shF sg (rowN rows i) (rowN rows j) L O)).map stD), d8]) →
    forV (gV 8) W_shown_alike_L1 (H.map D.int) D' [.val (keepO s rows), .val (.int i), .val (.int j), c3, .val (tI L), .val (tI O), .val (.bl sg), .own acc, c8]
  | [], acc, c8, h1, h2, q => by
    have := q c8
    rw [List.map_nil, for_nil]
    simpa using this
  | x :: H, acc, c8, h1, h2, q => by
    obtain ⟨x0, x1⟩ := h1 x (List.mem_cons_self ..)
    have la := k.lenD hi
    have lb := k.lenD hj
    have ea := at_row x0 (by omega : x < (rowN rows i).length)
    have eb := at_row x0 (by omega : x < (rowN rows j).length)
    have e1 := at_rows hi
    have e2 := at_rows hj
    have nx : ∀ d8, forV (gV 8) W_shown_alike_L1 (H.map D.int) D' [.val (keepO s rows), .val (.int i), .val (.int j), c3, .val (tI L), .val (tI O), .val (.bl sg), .own (acc ++ [stD (shF sg (rowN rows i) (rowN rows j) L O x)]), d8] := fun d8 =>
      shown_loop k hi hj H (fun y hy => h1 y (List.mem_cons_of_mem _ hy)) (by simp at h2 ⊢; omega) fun d8 => by simpa using q d8
    rw [List.map_cons, for_cons]
    generalize forV (gV 8) W_shown_alike_L1 (H.map D.int) D' = F at *
    generalize rowN rows i = a at *
    generalize rowN rows j = b at *
    have hz : acc.length < sizeLine := lt_sz (by simp at h2; omega)
    have nx' := nx (.val (.int x))
    clear nx q
    cases sg <;> by_cases hL : x ∈ L <;> by_cases hO : x ∈ O <;> simp [W_shown_alike_L1, shF, stD, hL, hO, hz, e1, e2, ea, eb] at nx' ⊢ <;> exact nx'
theorem shown_alike_ok (k : Kp s h rows) (hH : Hs h H) {i j : Nat} (hi : i < rows.length) (hj : j < rows.length) {L O : List Int} {sg : Bool} {Q : D → Prop} (q : Q (.tup ((H.map (shF sg (rowN rows i) (rowN rows j) L O)).map stD))) :
    W_shown_alike [keepO s rows, .int i, .int j, tI H, tI L, tI O, .bl sg] Q := by
  simp [W_shown_alike, -forV]
  refine shown_loop k hi hj H hH.rg (by have := hH.sm; simp; omega) fun d8 => ?_
  simpa using q
def liarsF (f : Nat) (sg : Bool) (ap : List Int) : List Int := if sg then ap else ap.take f
def othersF (f : Nat) (sg : Bool) (ap : List Int) : List Int := if sg then ap else ap.drop f
def foolO (rows : List (List Int)) (H : List Int) (f : Nat) (sg : Bool) (x y : Nat) : D :=
  .obj "FooledRuns" (foolFs (.int x) (.int y) (tI (liarsF f sg (unl (rowN rows x) (rowN rows y) H))) (tI (othersF f sg (unl (rowN rows x) (rowN rows y) H)))
    (.tup ((H.map (shF sg (rowN rows x) (rowN rows y) (liarsF f sg (unl (rowN rows x) (rowN rows y) H)) (othersF f sg (unl (rowN rows x) (rowN rows y) H)))).map stD)))
theorem fooled_runs_ok (k : Kp s h rows) (hH : Hs h H) {f : Nat} {sg : Bool} (hf : f ≤ 1000) {Q : D → Prop} (q0 : ∀ o, IsLeast rows H o → (match o with | none => True | some m => need f sg < m) → Q .non)
    (q1 : ∀ x y : Nat, x < y → y < rows.length → IsLeast rows H (some (dst rows H x y)) → dst rows H x y ≤ need f sg → Q (foolO rows H f sg x y)) : W_fooled_runs [keepO s rows, tI H, .int f, .bl sg] Q := by
  simp [W_fooled_runs]
  refine twins_ok k hH (fun h1 => ?_) fun x y h1 h2 h3 => ?_
  · simp
    exact q0 none (.inl ⟨rfl, h1⟩) trivial
  · have il : IsLeast rows H (some (dst rows H x y)) := .inr ⟨x, y, h1, h2, rfl, h3⟩
    simp
    refine unlike_at_ok k hH (by omega) h2 ?_
    simp
    refine lies_needed_ok hf ?_
    simp
    have ed : dst rows H x y = (unl (rowN rows x) (rowN rows y) H).length := rfl
    refine ⟨fun hlt => q0 _ il (by show need f sg < dst rows H x y; omega), fun hle => ?_⟩
    have q2 := q1 x y h1 h2 il (by omega)
    unfold foolO at q2
    generalize hu : unl (rowN rows x) (rowN rows y) H = u at *
    have c1 : cutD (u.map D.int) none (some (f : Int)) = (u.take f).map D.int := by rw [cut_take, List.map_take]
    have c2 : cutD (u.map D.int) (some (f : Int)) none = (u.drop f).map D.int := by rw [cut_drop, List.map_drop]
    cases sg with
    | true =>
      simp [liarsF, othersF] at q2 ⊢
      refine shown_alike_ok k hH (by omega) h2 ?_
      simp
      exact fooled_make (by simpa using q2)
    | false =>
      simp [liarsF, othersF, c1, c2, -List.map_take, -List.map_drop] at q2 ⊢
      refine shown_alike_ok k hH (by omega) h2 ?_
      simp [-List.map_take, -List.map_drop]
      exact fooled_make (by simpa [-List.map_take, -List.map_drop] using q2)
end
end K40

namespace K40
open PySem PySem.Spec PyProof.Rows L2 Hl Vl
/-- a row at these houses -/
def prj (H : List Int) (r : List Int) : List Int := H.map (atZ r)
theorem valR_app {m : List (List Int × D)} {r r' : List Int} {v : D} (h : r ∉ m.map (·.1)) : valR (m ++ [(r, v)]) r' = if r = r' then some v else valR m r' := by
  unfold valR
  rw [List.find?_append]
  by_cases e : r = r'
  · subst e
    have := valR_none h
    unfold valR at this
    rw [Option.map_eq_none_iff] at this
    simp [this]
  · rw [if_neg e]
    cases hm : m.find? fun e => decide (e.1 = r') with
    | none => simp [e]
    | some x => simp
section
variable {s : Int} {h : Nat} {rows : List (List Int)} {H : List Int}
theorem crowd_loop (k : Kp s h rows) (hH : Hs h H) {D' : EV} (q0 : ∀ ks : List (List Int), ks.Nodup → ks.length = rows.length → (∀ x ∈ ks, ∃ r ∈ rows, x = prj H r) → False)
    (q1 : ∀ i j : Nat, i < j → j < rows.length → prj H (rowN rows i) = prj H (rowN rows j) → D'.rt (.tup [.int i, .int j])) : ∀ (rest : List (List Int)) {i : Nat} {m : List (List Int × D)} {c3 c4 c5 : Cell}, rows.drop i = rest → i + rest.length = rows.length → (m.map (·.1)).Nodup → m.length = i →
    (∀ r d, valR m r = some d → ∃ i0 : Nat, i0 < i ∧ d = .int i0 ∧ prj H (rowN rows i0) = r) → (∀ x ∈ m.map (·.1), ∃ r ∈ rows, x = prj H r) →
    forV (gTupV 2 (gConsV (gV 3) (gConsV (gV 4) gNilV))) W_crowded_L1 (prL i (rest.map tI)) D' [.val (keepO s rows), .val (tI H), .dit (kvR m), c3, c4, c5, .no]
  | [], i, m, c3, c4, c5, h0, h1, h2, h3, h4, h5 => (q0 _ h2 (by simp at h1 ⊢; omega) h5).elim
  | r :: rest, i, m, c3, c4, c5, h0, h1, h2, h3, h4, h5 => by
    obtain ⟨e0, e1⟩ := drop_at h0
    have hi : i < rows.length := by simp at h1; omega
    have er : rowN rows i = r := by
      rw [rowN, List.getD_eq_getElem?_getD, e0]; rfl
    have hr : r ∈ rows := List.mem_of_getElem? e0
    have lr := k.len r hr
    rw [List.map_cons, prL, for_cons]
    have hz : m.length < sizeLine := lt_sz (by have := k.n128; omega)
    have nx : prj H r ∉ m.map (·.1) → ∀ d3 d4 d5, forV (gTupV 2 (gConsV (gV 3) (gConsV (gV 4) gNilV))) W_crowded_L1 (prL (i + 1) (rest.map tI)) D' [.val (keepO s rows), .val (tI H), .dit (kvR (putR m (prj H r) (.int i))), d3, d4, d5, .no] := fun hn d3 d4 d5 => by
      rw [putR_new hn]
      refine crowd_loop k hH q0 q1 rest (i := i + 1) e1 (by simp at h1; omega) ?_ (by simp; omega) (fun r' d e => ?_) fun x hx => ?_
      · rw [List.map_append, List.nodup_append]
        refine ⟨h2, by simp, fun a ha b hb e => ?_⟩
        have : b = prj H r := by simpa using hb
        subst this
        exact hn (e ▸ ha)
      · rw [valR_app hn] at e
        split at e
        · rename_i e2
          cases e
          exact ⟨i, by omega, rfl, by rw [er]; exact e2⟩
        · obtain ⟨i0, a1, a2, a3⟩ := h4 r' d e
          exact ⟨i0, by omega, a2, a3⟩
      · rw [List.map_append, List.mem_append] at hx
        rcases hx with hx | hx
        · exact h5 x hx
        · have : x = prj H r := by simpa using hx
          exact ⟨r, hr, this⟩
    generalize forV (gTupV 2 (gConsV (gV 3) (gConsV (gV 4) gNilV))) W_crowded_L1 (prL (i + 1) (rest.map tI)) D' = F at *
    simp [prI, W_crowded_L1, -lcV]
    refine lc_m D.int (fun x => D.int (atZ r x)) H (fun x hx A B k1 => ?_) rfl (by have := hH.sm; exact le_sz (by omega)) ?_
    · obtain ⟨x0, x1⟩ := hH.rg x hx
      simp [at_row x0 (by omega : x < r.length)] at k1 ⊢
      exact k1
    · have em : (H.map fun x => D.int (atZ r x)) = (prj H r).map D.int := by simp [prj]
      simp only [em]
      cases e : valR m (prj H r) with
      | some d =>
        obtain ⟨i0, a1, rfl, a3⟩ := h4 _ _ e
        have s2 : (2 : Nat) ≤ sizeLine := by decide
        simp [e, s2]
        exact q1 i0 i a1 hi (by rw [a3, er])
      | none =>
        have hn : prj H r ∉ m.map (·.1) := fun z => by
          have := valR_some.2 z
          rw [e] at this; cases this
        simp [e, hz]
        exact nx hn _ _ _
theorem crowded_ok (k : Kp s h rows) (hH : Hs h H) {all : List (List Int)} (ha : all.length < rows.length) (hs : ∀ r ∈ rows, prj H r ∈ all) {Q : D → Prop}
    (q : ∀ i j : Nat, i < j → j < rows.length → prj H (rowN rows i) = prj H (rowN rows j) → Q (.tup [.int i, .int j])) : W_crowded [keepO s rows, tI H] Q := by
  simp [W_crowded, -forV]
  rw [enD_prL]
  refine crowd_loop k hH (fun ks hn hl hk => ?_) q rows (i := 0) (m := []) rfl (by simp) (by simp) rfl (fun r d e => by cases e) (fun x hx => by simp at hx)
  have := hn.length_le_of_subset (l₂ := all) fun x hx => by
    obtain ⟨r, hr, rfl⟩ := hk x hx
    exact hs r hr
  omega
end
end K40

namespace K40
open PySem PySem.Spec PyProof.Rows L2 Hl Vl
@[simp] theorem eqv_non_int {i : Int} : D.non.eqv (.int i) = false := by rfl
@[simp] theorem eqv_int_non {i : Int} : (D.int i).eqv .non = false := by rfl
def shB (sg : Bool) (a lot : List Int) : List Int → List (Option Int) → Bool
  | x :: H, o :: S => (decide (o = some (atZ a x)) || (decide (x ∈ lot) && !(sg && o.isSome))) && shB sg a lot H S
  | _, _ => true
section
variable {s : Int} {h : Nat} {rows : List (List Int)} {H : List Int}
theorem is_shown_loop (k : Kp s h rows) {v : Nat} (hv : v < rows.length) {lot : List Int} {sg : Bool} {D' : EV} {c2 c4 : Cell} : ∀ (H : List Int) (S : List (Option Int)) {c6 c7 c8 : Cell}, (∀ x ∈ H, 0 ≤ x ∧ x < h) →
    (shB sg (rowN rows v) lot H S = false → D'.rt (.bl false)) → (∀ d6 d7 d8, shB sg (rowN rows v) lot H S = true → D'.nx [.val (keepO s rows), .val (.int v), c2, .val (tI lot), c4, .val (.bl sg), d6, d7, d8]) →
    forV (gTupV 2 (gConsV (gV 6) (gConsV (gV 7) gNilV))) W_is_shown_L1 (zipD (H.map D.int) (S.map stD)) D' [.val (keepO s rows), .val (.int v), c2, .val (tI lot), c4, .val (.bl sg), c6, c7, c8]
  | [], S, c6, c7, c8, h1, q1, q2 => by
    have : zipD (([] : List Int).map D.int) (S.map stD) = [] := by cases S <;> rfl
    rw [this]
    exact q2 _ _ _ (by unfold shB; rfl)
  | x :: H, [], c6, c7, c8, h1, q1, q2 => q2 _ _ _ (by unfold shB; rfl)
  | x :: H, o :: S, c6, c7, c8, h1, q1, q2 => by
    have hh : ∀ x ∈ H, 0 ≤ x ∧ x < h := fun y hy => h1 y (List.mem_cons_of_mem _ hy)
    obtain ⟨x0, x1⟩ := h1 x (List.mem_cons_self ..)
    have ev := at_rows hv
    have lv := k.lenD hv
    have ea := at_row x0 (by omega : x < (rowN rows v).length)
    rw [List.map_cons, List.map_cons, zipD, for_cons]
    have nx : (decide (o = some (atZ (rowN rows v) x)) || (decide (x ∈ lot) && !(sg && o.isSome))) = true → ∀ d6 d7 d8, forV (gTupV 2 (gConsV (gV 6) (gConsV (gV 7) gNilV))) W_is_shown_L1 (zipD (H.map D.int) (S.map stD)) D' [.val (keepO s rows), .val (.int v), c2, .val (tI lot), c4, .val (.bl sg), d6, d7, d8] := fun e d6 d7 d8 =>
      is_shown_loop k hv H S hh (fun z => q1 (by rw [shB, e, z]; rfl)) fun d6 d7 d8 z => q2 d6 d7 d8 (by rw [shB, e, z]; rfl)
    have no : (decide (o = some (atZ (rowN rows v) x)) || (decide (x ∈ lot) && !(sg && o.isSome))) = false → D'.rt (.bl false) := fun e => q1 (by rw [shB, e]; rfl)
    clear q1 q2
    generalize forV (gTupV 2 (gConsV (gV 6) (gConsV (gV 7) gNilV))) W_is_shown_L1 (zipD (H.map D.int) (S.map stD)) D' = F at *
    generalize rowN rows v = a at *
    cases o with
    | none =>
      by_cases hl : x ∈ lot
      · simp [hl] at nx no
        cases sg <;> simp [W_is_shown_L1, stD, hl, ev, ea] <;> exact nx _ _ _
      · simp [hl] at nx no
        cases sg <;> simp [W_is_shown_L1, stD, hl, ev, ea] <;> exact no
    | some c =>
      by_cases hc : c = atZ a x
      · subst hc
        simp at nx no
        cases sg <;> simp [W_is_shown_L1, stD, ev, ea] <;> exact ⟨fun _ => nx _ _ _, fun _ => nx _ _ _⟩
      · by_cases hl : x ∈ lot
        · cases sg with
          | true =>
            simp [hl, hc] at nx no
            simp [W_is_shown_L1, stD, hl, ev, ea, hc]
            exact no
          | false =>
            simp [hl, hc] at nx no
            simp [W_is_shown_L1, stD, hl, ev, ea, hc]
            exact nx _ _ _
        · simp [hl, hc] at nx no
          cases sg <;> simp [W_is_shown_L1, stD, hl, ev, ea, hc] <;> exact no
theorem is_shown_ok (k : Kp s h rows) (hH : Hs h H) {v : Nat} (hv : v < rows.length) {lot : List Int} {sg : Bool} {S : List (Option Int)} {Q : D → Prop} (q : Q (.bl (shB sg (rowN rows v) lot H S))) :
    W_is_shown [keepO s rows, .int v, tI H, tI lot, .tup (S.map stD), .bl sg] Q := by
  simp [W_is_shown, -forV]
  refine is_shown_loop k hv H S hH.rg (fun e => ?_) fun d6 d7 d8 e => ?_
  · rw [e] at q; exact q
  · rw [e] at q; simpa using q
/-! states told -/
/-- what a state may be, of plain values -/
inductive Pst : D → Prop
  | non : Pst .non
  | bl (b : Bool) : Pst (.bl b)
  | int (i : Int) : Pst (.int i)
  | str (z : Str) : Pst (.str z)
theorem Pst.pl {d : D} (h : Pst d) : Pl d := by
  cases h
  · exact .non
  · exact .bl _
  · exact .int _
  · exact .str _
def stB (s : Int) : D → Bool
  | .non => true
  | d => isNum (s - 1) d
theorem stB_all {s : Int} : ∀ {l : List D}, l.all (stB s) = true → ∃ S : List (Option Int), l = S.map stD ∧ S.length = l.length
  | [], _ => ⟨[], rfl, rfl⟩
  | d :: l, h => by
    rw [List.all_cons, Bool.and_eq_true] at h
    obtain ⟨S, rfl, e⟩ := stB_all h.2
    have h1 := h.1
    cases d <;> simp [stB, isNum] at h1
    · exact ⟨none :: S, rfl, by simp⟩
    · rename_i i
      exact ⟨some i :: S, rfl, by simp⟩
/-- values told as shown -/
inductive Psh : D → Prop
  | non : Psh .non
  | tup (l : List D) (hl : ∀ d ∈ l, Pst d) (hz : l.length ≤ 60) : Psh (.tup l)
  | lst (l : List D) (hz : l.length ≤ 60) : Psh (.lst l)
def shownB (s : Int) (n : Nat) : D → Bool
  | .tup l => decide (l.length = n) && l.all (stB s)
  | _ => false
theorem are_states_ok {v : D} (hv : Psh v) (k : Kp s h rows) {Q : D → Prop} (q : Q (.bl (shownB s H.length v))) : W_are_states [keepO s rows, tI H, v] Q := by
  cases hv with
  | non => simpa [W_are_states, shownB] using q
  | lst l hz => simpa [W_are_states, shownB] using q
  | tup l hl hz =>
    by_cases hn : l.length = H.length
    · have hn' : (l.length : Int) = (H.length : Int) := by omega
      simp [W_are_states, hn, hn', -lcV]
      have E : l = l.map id := by simp
      rw [E]
      refine lc_m id (fun d => .bl (stB s d)) l (fun d hd A B k1 => ?_) rfl (le_sz (by omega)) ?_
      · have hp := hl d hd
        cases hp with
        | non => simpa [stB] using k1
        | bl b =>
          simp [stB] at k1 ⊢
          rw [is_numP_iff (.bl b)]
          exact k1
        | int i =>
          simp [stB, isNum] at k1 ⊢
          exact k1
        | str z =>
          simp [stB] at k1 ⊢
          rw [is_numP_iff (.str z)]
          exact k1
      · simp [shownB, hn] at q ⊢
        exact q
    · have hn' : ¬ (l.length : Int) = (H.length : Int) := by omega
      simp [W_are_states, hn, hn', shownB] at q ⊢
      exact q
end
end K40

namespace K40
open PySem PySem.Spec PyProof.Rows L2 Hl Vl
/-- values told as houses -/
inductive Plt : D → Prop
  | non : Plt .non
  | tup (ns : List Int) (hz : ns.length ≤ 60) : Plt (tI ns)
  | lst (l : List D) : Plt (.lst l)
def lotB (h : Nat) (ns : List Int) : Bool := (ns.all fun x => decide (0 ≤ x) && decide (x ≤ (h : Int) - 1)) && ascB ns
theorem lot_of_ok {h : Nat} {ns : List Int} (hz : ns.length ≤ 60) {Q : D → Prop} (q : Q (if lotB h ns = true then tI ns else .non)) : W_lot_of [tI ns, .int h] Q := by
  simp [W_lot_of, -lcV]
  refine lc_m D.int (fun x => .bl (decide (0 ≤ x) && decide (x ≤ (h : Int) - 1))) ns (fun x hx A B k1 => ?_) rfl (le_sz (by omega)) ?_
  · simp at k1 ⊢
    exact k1
  · unfold lotB at q
    by_cases e : (ns.all fun x => decide (0 ≤ x) && decide (x ≤ (h : Int) - 1)) = true
    · have e' := e
      simp only [blsO_mapb, oK_some, wCB, gAll] 
      simp only [List.all_eq_true, Bool.and_eq_true, decide_eq_true_eq] at e'
      simp [e, -List.all_eq_true, -Bool.and_eq_true] at q ⊢
      refine ⟨fun x hx h' => absurd h' (by have := e' x hx; simp; omega), fun _ => ?_⟩
      refine is_ascending_ok (by omega) ?_
      cases ha : ascB ns <;> simp [ha] at q ⊢ <;> exact q
    · have e' : (ns.all fun x => decide (0 ≤ x) && decide (x ≤ (h : Int) - 1)) = false := by simpa only [Bool.not_eq_true] using e
      have ex : ∃ x ∈ ns, (0 ≤ x → (h : Int) - 1 < x) := by
        rw [List.all_eq_false] at e'
        obtain ⟨x, hx, h1⟩ := e'
        refine ⟨x, hx, fun h0 => ?_⟩
        simp [h0] at h1
        omega
      simp [e', -List.all_eq_true, -Bool.and_eq_true, -List.all_eq_false] at q ⊢
      exact ⟨fun _ _ _ => q, fun hh => by
        obtain ⟨x, hx, h1⟩ := ex
        have h2 := hh x hx
        have h3 := h1 h2.1
        omega⟩
def partB (h : Nat) (rows : List (List Int)) (H : List Int) (S : List (Option Int)) (f : Nat) (sg : Bool) (v : Nat) : D → Bool
  | .tup l => match intsO l with
    | some ns => lotB h ns && (decide (ns.length ≤ f) && ((ns.all fun x => decide (x ∈ H)) && shB sg (rowN rows v) ns H S))
    | none => false
  | _ => false
section
variable {s : Int} {h : Nat} {rows : List (List Int)} {H : List Int}
theorem part_ok (k : Kp s h rows) (hH : Hs h H) {v : Nat} (hv : v < rows.length) {lot : D} (hl : Plt lot) {f : Nat} {sg : Bool} {S : List (Option Int)} {D' : EV} {o1 o2 o3 o4 : D} {c7 : Cell} (q1 : partB h rows H S f sg v lot = false → D'.rt (.bl false))
    (q2 : partB h rows H S f sg v lot = true → D'.nx [.val (keepO s rows), .val (tI H), .val (.int f), .val (.bl sg), .val (.obj "FooledRuns" (foolFs o1 o2 o3 o4 (.tup (S.map stD)))), .val (.int v), .val lot, c7, .no]) :
    W_are_fooled_runs_L1 D' [.val (keepO s rows), .val (tI H), .val (.int f), .val (.bl sg), .val (.obj "FooledRuns" (foolFs o1 o2 o3 o4 (.tup (S.map stD)))), .val (.int v), .val lot, c7, .no] := by
  obtain ⟨a, t, er, ha⟩ := k.hd
  have e0 : atI (rows.map tI) 0 = some (tI a) := by rw [er]; simp
  have ea : (a.length : Int) = (h : Int) := by rw [ha]
  cases hl with
  | non => simpa [W_are_fooled_runs_L1, partB] using q1
  | lst l => simpa [W_are_fooled_runs_L1, partB] using q1
  | tup ns hz =>
    simp only [partB, intsO_ints] at q1 q2
    simp [W_are_fooled_runs_L1, e0, ea, -lcV]
    refine lot_of_ok hz ?_
    by_cases e1 : lotB h ns = true
    · rw [if_pos e1]
      simp only [e1, Bool.true_and] at q1 q2
      by_cases e2 : ns.length ≤ f
      · have e2' : ¬ f < ns.length := by omega
        simp only [e2, decide_true, Bool.true_and] at q1 q2
        simp [-lcV]
        refine ⟨fun z => absurd z e2', fun _ => ?_⟩
        refine lc_m D.int (fun x => .bl (decide (x ∈ H))) ns (fun x hx A B k1 => ?_) rfl (le_sz (by omega)) ?_
        · simp at k1 ⊢
          exact k1
        · by_cases e3 : (ns.all fun x => decide (x ∈ H)) = true
          · simp only [e3, Bool.true_and] at q1 q2
            have e3' := List.all_eq_true.1 e3
            simp at e3'
            simp
            refine ⟨fun x hx hn => absurd (e3' x hx) hn, fun _ => ?_⟩
            refine is_shown_ok k hH hv ?_
            cases e4 : shB sg (rowN rows v) ns H S
            · simp; exact q1 e4
            · simp; exact q2 e4
          · have e3' : (ns.all fun x => decide (x ∈ H)) = false := by simpa only [Bool.not_eq_true] using e3
            simp only [e3', Bool.false_and] at q1
            simp
            refine ⟨fun _ _ _ => q1 trivial, fun hh => absurd (List.all_eq_true.2 fun x hx => decide_eq_true (hh x hx)) e3⟩
      · have e2' : f < ns.length := by omega
        simp only [e2, decide_false, Bool.false_and] at q1
        simp [-lcV]
        exact ⟨fun _ => q1 trivial, fun z => absurd z (by omega)⟩
    · rw [if_neg e1]
      have e1' : lotB h ns = false := by simpa only [Bool.not_eq_true] using e1
      simp only [e1', Bool.false_and] at q1
      simp
      exact q1 trivial
end
end K40

namespace K40
open PySem PySem.Spec PyProof.Rows L2 Hl Vl
def toNd : D → Nat
  | .int i => i.toNat
  | _ => 0
def sOf : D → List (Option Int)
  | .tup l => l.map fun d => match d with
    | .int i => some i
    | _ => none
  | _ => []
@[simp] theorem sOf_st {S : List (Option Int)} : sOf (.tup (S.map stD)) = S := by
  show (S.map stD).map _ = S
  rw [List.map_map]
  conv => rhs; rw [← List.map_id S]
  congr 1
  funext o
  cases o <;> rfl
@[simp] theorem bls2 {a b : Bool} : blsO [.bl a, .bl b] = some [a, b] := rfl
theorem sz0 : (0 : Nat) < sizeLine := by decide
theorem sz1 : (1 : Nat) < sizeLine := by decide
theorem sz2 : (2 : Nat) ≤ sizeLine := by decide
def judge (s : Int) (h : Nat) (rows : List (List Int)) (H : List Int) (f : Nat) (sg : Bool) (one other liars others shown : D) : Bool :=
  shownB s H.length shown && (isNum ((rows.length : Int) - 1) one && (isNum ((rows.length : Int) - 1) other && (!D.eqv one other && (partB h rows H (sOf shown) f sg (toNd one) liars && partB h rows H (sOf shown) f sg (toNd other) others))))
theorem shownB_st {s : Int} {n : Nat} {v : D} (h : shownB s n v = true) : ∃ S : List (Option Int), v = .tup (S.map stD) ∧ S.length = n := by
  cases v <;> simp only [shownB] at h <;> try cases h
  rw [Bool.and_eq_true] at h
  obtain ⟨S, rfl, e⟩ := stB_all h.2
  exact ⟨S, rfl, by rw [e]; exact of_decide_eq_true h.1⟩
theorem isNum_nat {n : Nat} {d : D} (h : isNum ((n : Int) - 1) d = true) : ∃ v : Nat, d = .int v ∧ v < n := by
  cases d <;> simp [isNum] at h
  rename_i i
  exact ⟨i.toNat, by rw [Int.toNat_of_nonneg h.1], by omega⟩
section
variable {s : Int} {h : Nat} {rows : List (List Int)} {H : List Int}
theorem are_other {a b c d v : D} (hk : v.kn ["FooledRuns", "Keeping"] = true) (h1 : v.isCl "FooledRuns" = false) {Q : D → Prop} (q : Q (.bl false)) : W_are_fooled_runs [a, b, c, d, v] Q := by
  simp only [W_are_fooled_runs, wDef]
  simp [-D.kn, -D.isCl, hk, h1]
  exact q
theorem are_fooled_ok (k : Kp s h rows) (hH : Hs h H) {f : Nat} {sg : Bool} {one other liars others shown : D} (p1 : Pst one) (p2 : Pst other) (p3 : Plt liars) (p4 : Plt others) (p5 : Psh shown) {Q : D → Prop} (q : Q (.bl (judge s h rows H f sg one other liars others shown))) :
    W_are_fooled_runs [keepO s rows, tI H, .int f, .bl sg, .obj "FooledRuns" (foolFs one other liars others shown)] Q := by
  have i1 : ∀ {m : Int} {R : D → Prop}, W_is_number [one, .int m] R ↔ R (.bl (isNum m one)) := is_numP_iff p1.pl
  have i2 : ∀ {m : Int} {R : D → Prop}, W_is_number [other, .int m] R ↔ R (.bl (isNum m other)) := is_numP_iff p2.pl
  simp [W_are_fooled_runs, -forV, -lcV]
  refine are_states_ok p5 k ?_
  unfold judge at q
  by_cases e1 : shownB s H.length shown = true
  · obtain ⟨S, rfl, hS⟩ := shownB_st e1
    simp only [e1, Bool.true_and, sOf_st] at q
    simp [e1, i1, i2, sz0, sz1, sz2, -forV]
    by_cases e2 : isNum ((rows.length : Int) - 1) one = true
    · by_cases e3 : isNum ((rows.length : Int) - 1) other = true
      · obtain ⟨v, rfl, hv⟩ := isNum_nat e2
        obtain ⟨u, rfl, hu⟩ := isNum_nat e3
        simp only [e2, e3, Bool.true_and, toNd, Int.toNat_natCast, eqv_int] at q
        by_cases e4 : v = u
        · subst e4
          simp [e2] at q ⊢
          exact q
        · have e4' : ¬ (v : Int) = u := by omega
          simp only [e4', decide_false, Bool.not_false, Bool.true_and] at q
          simp [e2, e3, e4, -forV]
          refine ⟨fun z => absurd z e4', fun _ => ?_⟩
          rw [for_cons]
          simp only [gTupV, gConsV, gNilV, gV]
          refine ⟨rfl, ?_⟩
          refine part_ok k hH hv p3 (fun z => ?_) fun z => ?_
          · simp only [z, Bool.false_and] at q
            exact q
          simp only [z, Bool.true_and] at q
          show forV _ _ _ _ _
          rw [for_cons]
          simp only [gTupV, gConsV, gNilV, gV]
          refine ⟨rfl, ?_⟩
          refine part_ok k hH hu p4 (fun z => ?_) fun z => ?_
          · simp only [z] at q
            exact q
          simp only [z] at q
          show forV _ _ _ _ _
          rw [for_nil]
          simpa using q
      · have e3' : isNum ((rows.length : Int) - 1) other = false := by simpa only [Bool.not_eq_true] using e3
        simp only [e2, e3', Bool.true_and, Bool.false_and] at q
        simp [e2, e3']
        exact q
    · have e2' : isNum ((rows.length : Int) - 1) one = false := by simpa only [Bool.not_eq_true] using e2
      simp only [e2', Bool.false_and] at q
      simp [e2']
      exact q
  · have e1' : shownB s H.length shown = false := by simpa only [Bool.not_eq_true] using e1
    simp only [e1', Bool.false_and] at q
    simp [e1']
    exact q
end
end K40

namespace K40
open PySem PySem.Spec PyProof.Rows L2 Hl Vl
def lotD (h : Nat) : D → Bool
  | .tup l => match intsO l with
    | some ns => lotB h ns
    | none => false
  | _ => false
theorem all_eq_false {α : Type} {l : List α} {p : α → Bool} (h : ¬ l.all p = true) : l.all p = false := by simpa only [Bool.not_eq_true] using h
theorem law_is_lot_ok {h : Nat} {v : D} {Q : D → Prop} (hv : Plt v) (q : Q (.bl (lotD h v))) : W__law_is_lot [v, .int h] Q := by
  cases hv with
  | non => simp [W__law_is_lot]; exact q
  | lst l => simp [W__law_is_lot]; exact q
  | tup ns hz =>
    simp only [lotD, intsO_ints] at q
    simp [W__law_is_lot, -lcV]
    refine lc_m D.int (fun x => .bl (decide (0 ≤ x) && decide (x ≤ (h : Int) - 1))) ns (fun x hx A B k1 => ?_) rfl (le_sz (by omega)) ?_
    · simp at k1 ⊢
      by_cases h0 : 0 ≤ x
      · have h0' : ¬ x < 0 := by omega
        have e : decide (x < (h : Int)) = decide (x ≤ (h : Int) - 1) := by
          by_cases hx : x < (h : Int)
          · rw [decide_eq_true hx, decide_eq_true (by omega)]
          · rw [decide_eq_false hx, decide_eq_false (by omega)]
        simp [h0, h0', e] at k1 ⊢
        exact k1
      · have h0' : x < 0 := by omega
        simp [h0, h0'] at k1 ⊢
        exact k1
    · simp only [blsO_mapb, oK_some, wCB, gAll]
      unfold lotB at q
      by_cases e : (ns.all fun x => decide (0 ≤ x) && decide (x ≤ (h : Int) - 1)) = true
      · rw [e, Bool.true_and] at q
        have hn : ¬ false ∈ ns.map fun x => decide (0 ≤ x) && decide (x ≤ (h : Int) - 1) := fun z => by
          obtain ⟨x, h1, h2⟩ := List.mem_map.1 z
          have := List.all_eq_true.1 e x h1
          rw [h2] at this; cases this
        have hs : (sortU ns).length ≤ ns.length := (nodup_of_lt (sortU_sorted ns)).length_le_of_subset fun x h => (sortU_mem ns x).1 h
        have ha : decide (ns = sortU ns) = ascB ns := by
          rw [Bool.eq_iff_iff, decide_eq_true_eq, ascB_iff]
          constructor
          · intro h; rw [h]; exact sortU_sorted ns
          · exact fun h => lt_ext h (sortU_sorted ns) fun x => (sortU_mem ns x).symm
        rw [← ha] at q
        simp [-List.mem_map, hn] at q ⊢
        exact ⟨by omega, by omega, q⟩
      · rw [all_eq_false e, Bool.false_and] at q
        have hn : false ∈ ns.map fun x => decide (0 ≤ x) && decide (x ≤ (h : Int) - 1) := by
          obtain ⟨x, h1, h2⟩ := List.all_eq_false.1 (all_eq_false e)
          exact List.mem_map.2 ⟨x, h1, by simpa only [Bool.not_eq_true] using h2⟩
        simp [-List.mem_map, hn]
        exact q
section
variable {s : Int} {h : Nat} {rows : List (List Int)} {H : List Int}
theorem law_states_loop {D' : EV} {c1 c2 c3 c4 c5 c6 c7 c8 c9 c10 c12 c13 c14 c15 c16 : Cell} : ∀ (l : List D) {c11 : Cell}, (∀ d ∈ l, Pst d) → (l.all (stB s) = false → D'.rt (.bl false)) →
    (∀ d11, l.all (stB s) = true → D'.nx [.val (.int s), c1, c2, c3, c4, c5, c6, c7, c8, c9, c10, d11, c12, c13, c14, c15, c16]) →
    forV (gV 11) W__law_is_L3 l D' [.val (.int s), c1, c2, c3, c4, c5, c6, c7, c8, c9, c10, c11, c12, c13, c14, c15, c16]
  | [], c11, hl, q1, q2 => q2 _ rfl
  | d :: l, c11, hl, q1, q2 => by
    rw [for_cons]
    have nx : stB s d = true → ∀ d11, forV (gV 11) W__law_is_L3 l D' [.val (.int s), c1, c2, c3, c4, c5, c6, c7, c8, c9, c10, d11, c12, c13, c14, c15, c16] := fun e d11 =>
      law_states_loop l (fun x hx => hl x (List.mem_cons_of_mem _ hx)) (fun z => q1 (by rw [List.all_cons, e, z]; rfl)) fun d11 z => q2 d11 (by rw [List.all_cons, e, z]; rfl)
    have no : stB s d = false → D'.rt (.bl false) := fun e => q1 (by rw [List.all_cons, e]; rfl)
    clear q1 q2
    generalize forV (gV 11) W__law_is_L3 l D' = F at *
    have hd := hl d (List.mem_cons_self ..)
    cases hd with
    | non => simp [W__law_is_L3]; exact nx rfl _
    | bl b => simp [W__law_is_L3]; exact no rfl
    | str z => simp [W__law_is_L3]; exact no rfl
    | int i =>
      simp only [stB, isNum] at nx no
      by_cases h0 : 0 ≤ i
      · by_cases h1 : i < s
        · have h1' : i ≤ s - 1 := by omega
          have h0' : ¬ i < 0 := by omega
          simp [h0, h1, h1', h0', W__law_is_L3] at nx ⊢
          exact nx _
        · have h1' : ¬ i ≤ s - 1 := by omega
          simp [h0, h1, h1', W__law_is_L3] at no ⊢
          exact no
      · simp [h0, W__law_is_L3] at no ⊢
        exact no
end
end K40

namespace K40
open PySem PySem.Spec PyProof.Rows L2 Hl Vl
section
variable {s : Int} {h : Nat} {rows : List (List Int)} {H : List Int}
theorem law_at_loop (k : Kp s h rows) (hH : Hs h H) {S : List (Option Int)} (hS : S.length = H.length) {v : Nat} (hv : v < rows.length) {lot : List Int} {sg : Bool} {D' : EV} {c0 c3 c5 c6 c7 c8 c9 c11 : Cell} : ∀ (H' : List Int) (S' : List (Option Int)) {i : Nat} {c14 c15 : Cell}, H.drop i = H' → S.drop i = S' →
    (shB sg (rowN rows v) lot H' S' = false → D'.rt (.bl false)) → (∀ d14 d15, shB sg (rowN rows v) lot H' S' = true → D'.nx [c0, .val (.tup (rows.map tI)), .val (tI H), c3, .val (.bl sg), c5, c6, c7, c8, c9, .val (.tup (S.map stD)), c11, .val (.int v), .val (tI lot), d14, d15, .no]) →
    forV (gV 14) W__law_is_L1 (rgD (i : Int) H'.length) D' [c0, .val (.tup (rows.map tI)), .val (tI H), c3, .val (.bl sg), c5, c6, c7, c8, c9, .val (.tup (S.map stD)), c11, .val (.int v), .val (tI lot), c14, c15, .no]
  | [], S', i, c14, c15, e1, e2, q1, q2 => q2 _ _ (by unfold shB; rfl)
  | x :: H', [], i, c14, c15, e1, e2, q1, q2 => by
    have := congrArg List.length e1
    have := congrArg List.length e2
    simp at *
    omega
  | x :: H', o :: S', i, c14, c15, e1, e2, q1, q2 => by
    obtain ⟨a1, a2⟩ := drop_at e1
    obtain ⟨b1, b2⟩ := drop_at e2
    have hx : x ∈ H := List.mem_of_getElem? a1
    obtain ⟨x0, x1⟩ := hH.rg x hx
    have ev := at_rows hv
    have lv := k.lenD hv
    have ea := at_row x0 (by omega : x < (rowN rows v).length)
    have eH : atI (H.map D.int) (i : Int) = some (.int x) := atI_nat (by rw [List.getElem?_map, a1]; rfl)
    have eS : atI (S.map stD) (i : Int) = some (stD o) := atI_nat (by rw [List.getElem?_map, b1]; rfl)
    rw [List.length_cons, rgD_succ, for_cons]
    have nx : (decide (o = some (atZ (rowN rows v) x)) || (decide (x ∈ lot) && !(sg && o.isSome))) = true → ∀ d14 d15, forV (gV 14) W__law_is_L1 (rgD ((i : Int) + 1) H'.length) D' [c0, .val (.tup (rows.map tI)), .val (tI H), c3, .val (.bl sg), c5, c6, c7, c8, c9, .val (.tup (S.map stD)), c11, .val (.int v), .val (tI lot), d14, d15, .no] := fun e d14 d15 =>
      law_at_loop k hH hS hv H' S' (i := i + 1) a2 b2 (fun z => q1 (by rw [shB, e, z]; rfl)) fun d14 d15 z => q2 d14 d15 (by rw [shB, e, z]; rfl)
    have no : (decide (o = some (atZ (rowN rows v) x)) || (decide (x ∈ lot) && !(sg && o.isSome))) = false → D'.rt (.bl false) := fun e => q1 (by rw [shB, e]; rfl)
    clear q1 q2
    generalize forV (gV 14) W__law_is_L1 (rgD ((i : Int) + 1) H'.length) D' = F at *
    generalize rowN rows v = a at *
    cases o with
    | none =>
      have eN : atI (S.map stD) (i : Int) = some .non := eS
      by_cases hl : x ∈ lot
      · simp [hl] at nx no
        cases sg <;> simp [W__law_is_L1, hl, ev, ea, eH, eN] <;> exact nx _ _
      · simp [hl] at nx no
        cases sg <;> simp [W__law_is_L1, hl, ev, ea, eH, eN] <;> exact no
    | some c =>
      by_cases hc : c = atZ a x
      · subst hc
        simp at nx no
        cases sg <;> simp [W__law_is_L1, stD, ev, ea, eH, eS] <;> exact nx _ _
      · by_cases hl : x ∈ lot
        · cases sg with
          | true =>
            simp [hl, hc] at nx no
            simp [W__law_is_L1, stD, hl, ev, ea, hc, eH, eS]
            exact no
          | false =>
            simp [hl, hc] at nx no
            simp [W__law_is_L1, stD, hl, ev, ea, hc, eH, eS]
            exact nx _ _
        · simp [hl, hc] at nx no
          cases sg <;> simp [W__law_is_L1, stD, hl, ev, ea, hc, eH, eS] <;> exact no
end
end K40

namespace K40
open PySem PySem.Spec PyProof.Rows L2 Hl Vl
section
variable {s : Int} {h : Nat} {rows : List (List Int)} {H : List Int}
theorem law_part_ok (k : Kp s h rows) (hH : Hs h H) {S : List (Option Int)} (hS : S.length = H.length) {d lot : D} (hd : Pst d) (hl : Plt lot) {f : Nat} {sg : Bool} {D' : EV} {c0 c5 c6 c7 c8 c9 c11 c14 c15 : Cell}
    (q1 : (isNum ((rows.length : Int) - 1) d && partB h rows H S f sg (toNd d) lot) = false → D'.rt (.bl false))
    (q2 : ∀ d14 d15, (isNum ((rows.length : Int) - 1) d && partB h rows H S f sg (toNd d) lot) = true → D'.nx [c0, .val (.tup (rows.map tI)), .val (tI H), .val (.int f), .val (.bl sg), c5, c6, c7, c8, c9, .val (.tup (S.map stD)), c11, .val d, .val lot, d14, d15, .no]) :
    W__law_is_L2 D' [c0, .val (.tup (rows.map tI)), .val (tI H), .val (.int f), .val (.bl sg), c5, c6, c7, c8, c9, .val (.tup (S.map stD)), c11, .val d, .val lot, c14, c15, .no] := by
  obtain ⟨a, t, er, ha⟩ := k.hd
  have e0 : atI (rows.map tI) 0 = some (tI a) := by rw [er]; simp
  have ea : (a.length : Int) = (h : Int) := by rw [ha]
  by_cases e : isNum ((rows.length : Int) - 1) d = true
  · obtain ⟨v, rfl, hv⟩ := isNum_nat e
    simp only [e, Bool.true_and, toNd, Int.toNat_natCast] at q1 q2
    have hv' : (v : Int) < (rows.length : Int) := by omega
    simp [W__law_is_L2, hv, e0, ea, -forV, -lcV]
    refine law_is_lot_ok hl ?_
    cases hl with
    | non => simp [lotD, partB, -forV, -lcV] at q1 ⊢; exact q1
    | lst l => simp [lotD, partB, -forV, -lcV] at q1 ⊢; exact q1
    | tup ns hz =>
      simp only [partB, intsO_ints] at q1 q2
      simp only [lotD, intsO_ints]
      by_cases e1 : lotB h ns = true
      · simp only [e1, Bool.true_and] at q1 q2
        simp [e1, -forV, -lcV]
        by_cases e2 : ns.length ≤ f
        · have e2' : ¬ f < ns.length := by omega
          simp only [e2, decide_true, Bool.true_and] at q1 q2
          refine ⟨fun z => absurd z e2', fun _ => ?_⟩
          refine lc_m D.int (fun x => .bl (decide (x ∈ H))) ns (fun x hx A B k1 => ?_) rfl (le_sz (by omega)) ?_
          · simp at k1 ⊢
            exact k1
          · by_cases e3 : (ns.all fun x => decide (x ∈ H)) = true
            · simp only [e3, Bool.true_and] at q1 q2
              have e3' := List.all_eq_true.1 e3
              simp at e3'
              simp [-forV]
              refine ⟨fun x hx hn => absurd (e3' x hx) hn, fun _ => ?_⟩
              refine ⟨by have := hH.sm; omega, ?_⟩
              exact law_at_loop k hH hS hv H S (i := 0) rfl rfl q1 q2
            · have e3' := all_eq_false e3
              simp only [e3', Bool.false_and] at q1
              simp [-forV]
              refine ⟨fun _ _ _ => q1 trivial, fun hh => absurd (List.all_eq_true.2 fun x hx => decide_eq_true (hh x hx)) e3⟩
        · simp only [e2, decide_false, Bool.false_and] at q1
          exact ⟨fun _ => q1 trivial, fun z => absurd z (by omega)⟩
      · have e1' : lotB h ns = false := by simpa only [Bool.not_eq_true] using e1
        simp only [e1', Bool.false_and] at q1
        simp [e1', -forV, -lcV]
        exact q1 trivial
  · have e' : isNum ((rows.length : Int) - 1) d = false := by simpa only [Bool.not_eq_true] using e
    simp only [e', Bool.false_and] at q1
    have q := q1 trivial
    clear q1 q2
    cases hd with
    | non => simp [W__law_is_L2, -forV, -lcV]; exact q
    | bl b => simp [W__law_is_L2, -forV, -lcV]; exact q
    | str z => simp [W__law_is_L2, -forV, -lcV]; exact q
    | int i =>
      simp only [isNum] at e'
      by_cases h0 : 0 ≤ i
      · have h1 : ¬ i < (rows.length : Int) := by
          intro z
          have h2 : i ≤ (rows.length : Int) - 1 := by omega
          simp [h0, h2] at e'
        simp [W__law_is_L2, h0, h1, -forV, -lcV]
        exact q
      · simp [W__law_is_L2, h0, -forV, -lcV]
        exact q
theorem law_is_ok (k : Kp s h rows) (hH : Hs h H) {f : Nat} {sg : Bool} {one other liars others shown : D} (p1 : Pst one) (p2 : Pst other) (p3 : Plt liars) (p4 : Plt others) (p5 : Psh shown) {Q : D → Prop} (q : Q (.bl (judge s h rows H f sg one other liars others shown))) :
    W__law_is [.int s, .tup (rows.map tI), tI H, .int f, .bl sg, .tup [one, other, liars, others, shown]] Q := by
  have s5 : (5 : Nat) ≤ sizeLine := by decide
  simp [W__law_is, s5, -forV, -lcV]
  unfold judge at q
  cases p5 with
  | non => simpa [shownB, -forV] using q
  | lst l hz => simpa [shownB, -forV] using q
  | tup l hl hz =>
    by_cases hn : l.length = H.length
    · have hn' : (l.length : Int) = (H.length : Int) := by omega
      simp [hn, hn', -forV]
      refine law_states_loop l hl (fun z => ?_) fun d11 z => ?_
      · simp only [shownB, z, Bool.and_false, Bool.false_and] at q
        exact q
      have e1 : shownB s H.length (.tup l) = true := by simp only [shownB, z, hn, decide_true, Bool.true_and]
      obtain ⟨S, el, hS⟩ := shownB_st e1
      cases el
      simp only [e1, Bool.true_and, sOf_st] at q
      clear z e1 hn hn'
      simp [sz0, sz1, sz2, -forV]
      rw [for_cons]
      simp only [gTupV, gConsV, gNilV, gV]
      refine ⟨rfl, ?_⟩
      refine law_part_ok k hH hS p1 p3 (fun z => ?_) fun d14 d15 z => ?_
      · have : (isNum ((rows.length : Int) - 1) one && (isNum ((rows.length : Int) - 1) other && (!D.eqv one other && (partB h rows H S f sg (toNd one) liars && partB h rows H S f sg (toNd other) others)))) = false := by
          cases h1 : isNum ((rows.length : Int) - 1) one <;> cases h2 : partB h rows H S f sg (toNd one) liars <;> simp [h1, h2] at z ⊢
        rw [this] at q
        exact q
      rw [Bool.and_eq_true] at z
      show forV _ _ _ _ _
      rw [for_cons]
      simp only [gTupV, gConsV, gNilV, gV]
      refine ⟨rfl, ?_⟩
      refine law_part_ok k hH hS p2 p4 (fun y => ?_) fun d14 d15 y => ?_
      · have : (isNum ((rows.length : Int) - 1) one && (isNum ((rows.length : Int) - 1) other && (!D.eqv one other && (partB h rows H S f sg (toNd one) liars && partB h rows H S f sg (toNd other) others)))) = false := by
          cases h1 : isNum ((rows.length : Int) - 1) other <;> cases h2 : partB h rows H S f sg (toNd other) others <;> simp [h1, h2] at y ⊢
        rw [this] at q
        exact q
      rw [Bool.and_eq_true] at y
      show forV _ _ _ _ _
      rw [for_nil]
      rw [z.1, z.2, y.1, y.2] at q
      obtain ⟨v, rfl, hv⟩ := isNum_nat z.1
      obtain ⟨u, rfl, hu⟩ := isNum_nat y.1
      simpa using q
    · have hn' : ¬ (l.length : Int) = (H.length : Int) := by omega
      simp only [shownB, hn, decide_false, Bool.false_and] at q
      simp [hn, hn', -forV]
      exact q
end
end K40

namespace K40
open PySem PySem.Spec PyProof.Rows L2 Hl Vl
theorem shB_map {sg : Bool} {a lot : List Int} {g : Int → Option Int} : ∀ {H : List Int}, shB sg a lot H (H.map g) = true ↔ ∀ x ∈ H, g x = some (atZ a x) ∨ (x ∈ lot ∧ ¬ (sg = true ∧ (g x).isSome = true))
  | [] => by simp [shB]
  | x :: H => by
    rw [List.map_cons, shB, Bool.and_eq_true, shB_map, List.forall_mem_cons]
    refine and_congr_left fun _ => ?_
    cases sg <;> simp
theorem lies_le {sg : Bool} {a lot : List Int} {g : Int → Option Int} : ∀ {H : List Int} {n : Nat}, (∀ x ∈ H, g x = some (atZ a x) ∨ (x ∈ lot ∧ ¬ (sg = true ∧ (g x).isSome = true))) →
    liesF sg a H (H.map g) n = some (n + (H.filter fun x => !decide (g x = some (atZ a x))).length)
  | [], n, _ => by simp [liesF]
  | x :: H, n, hh => by
    have h1 := hh x (List.mem_cons_self ..)
    have ih := fun m => lies_le (n := m) fun y hy => hh y (List.mem_cons_of_mem _ hy)
    rw [List.map_cons]
    cases e : g x with
    | none =>
      rw [liesF, ih, List.filter_cons, e, if_pos (by simp), List.length_cons]
      congr 1
      omega
    | some c =>
      by_cases hc : c = atZ a x
      · rw [liesF, if_pos hc, ih, List.filter_cons, e, if_neg (by simp [hc])]
      · rw [liesF, if_neg hc]
        cases sg with
        | true =>
          rcases h1 with h1 | ⟨_, h1⟩
          · rw [e] at h1; exact absurd (Option.some.inj h1) hc
          · exact absurd ⟨rfl, by rw [e]; rfl⟩ h1
        | false =>
          rw [if_neg (by simp), ih, List.filter_cons, e, if_pos (by simp [hc]), List.length_cons]
          congr 1
          omega
section
variable {s : Int} {h : Nat} {rows : List (List Int)} {H : List Int}
theorem rd_of (hH : Hs h H) {f : Nat} {sg : Bool} {v : Nat} {lot : List Int} {g : Int → Option Int} (hf : lot.length ≤ f) (hs : shB sg (rowN rows v) lot H (H.map g) = true) : rdB rows H (H.map g) f sg v = true := by
  have h1 := shB_map.1 hs
  unfold rdB
  rw [lies_le h1]
  refine decide_eq_true ?_
  have h2 : (H.filter fun x => !decide (g x = some (atZ (rowN rows v) x))).length ≤ lot.length := by
    refine ((nodup_of_lt hH.asc).sublist (List.filter_sublist ..)).length_le_of_subset fun x hx => ?_
    obtain ⟨h3, h4⟩ := List.mem_filter.1 hx
    rcases h1 x h3 with h5 | h5
    · simp [h5] at h4
    · exact h5.1
  omega
theorem lot_ok (hH : Hs h H) {ns : List Int} (hs : ns.Sublist H) : lotB h ns = true := by
  unfold lotB
  rw [Bool.and_eq_true]
  refine ⟨List.all_eq_true.2 fun x hx => ?_, ascB_iff.2 (hH.asc.sublist hs)⟩
  obtain ⟨h0, h1⟩ := hH.rg x (hs.subset hx)
  rw [Bool.and_eq_true]
  exact ⟨decide_eq_true h0, decide_eq_true (by omega)⟩
theorem mem_unl {a b : List Int} {x : Int} : x ∈ unl a b H ↔ x ∈ H ∧ ¬ atZ a x = atZ b x := by simp [unl]
theorem told_parts (k : Kp s h rows) (hH : Hs h H) {f : Nat} {sg : Bool} {x y : Nat} (hd : dst rows H x y ≤ need f sg) {u L O : List Int} {g : Int → Option Int} (eu : unl (rowN rows x) (rowN rows y) H = u) (eL : liarsF f sg u = L) (eO : othersF f sg u = O) (eg : shF sg (rowN rows x) (rowN rows y) L O = g) :
    partB h rows H (H.map g) f sg x (tI L) = true ∧ partB h rows H (H.map g) f sg y (tI O) = true ∧ L.length ≤ f ∧ O.length ≤ f ∧ shB sg (rowN rows x) L H (H.map g) = true ∧ shB sg (rowN rows y) O H (H.map g) = true := by
  have hu : u.length ≤ need f sg := by rw [← eu]; exact hd
  have su : u.Sublist H := by rw [← eu]; exact List.filter_sublist ..
  have sL : L.Sublist u := by
    rw [← eL]; unfold liarsF; split
    · exact List.Sublist.refl _
    · exact List.take_sublist ..
  have sO : O.Sublist u := by
    rw [← eO]; unfold othersF; split
    · exact List.Sublist.refl _
    · exact List.drop_sublist ..
  have mu : ∀ z, z ∈ u → z ∈ L ∨ z ∈ O := fun z hz => by
    rw [← eL, ← eO]
    unfold liarsF othersF
    cases sg
    · have := List.take_append_drop f u
      rw [← this] at hz
      exact List.mem_append.1 hz
    · exact .inl hz
  have lL : L.length ≤ f := by
    rw [← eL]; unfold liarsF
    cases sg
    · simp; omega
    · simpa [need] using hu
  have lO : O.length ≤ f := by
    rw [← eO]; unfold othersF
    cases sg
    · simp [need] at hu ⊢; omega
    · simpa [need] using hu
  have sgL : sg = true → L = u := fun e => by rw [← eL, e]; rfl
  have sgO : sg = true → O = u := fun e => by rw [← eO, e]; rfl
  have m1 : shB sg (rowN rows x) L H (H.map g) = true := shB_map.2 fun z hz => by
    rw [← eg]
    unfold shF
    cases sg with
    | true =>
      have e1 := sgL rfl
      have e2 := sgO rfl
      by_cases hzu : z ∈ u
      · refine .inr ⟨by rw [e1]; exact hzu, ?_⟩
        simp [e1, hzu]
      · refine .inl ?_
        simp [e1, e2, hzu]
    | false =>
      by_cases hzL : z ∈ L
      · exact .inr ⟨hzL, by simp⟩
      · exact .inl (by simp [hzL])
  have m2 : shB sg (rowN rows y) O H (H.map g) = true := shB_map.2 fun z hz => by
    have eq : z ∉ u → atZ (rowN rows x) z = atZ (rowN rows y) z := fun hn => by
      rw [← eu, mem_unl] at hn
      exact Classical.not_not.1 fun c => hn ⟨hz, c⟩
    rw [← eg]
    unfold shF
    cases sg with
    | true =>
      have e1 := sgL rfl
      have e2 := sgO rfl
      by_cases hzu : z ∈ u
      · refine .inr ⟨by rw [e2]; exact hzu, ?_⟩
        simp [e1, hzu]
      · refine .inl ?_
        simp [e1, e2, hzu, eq hzu]
    | false =>
      by_cases hzL : z ∈ L
      · exact .inl (by simp [hzL])
      · by_cases hzO : z ∈ O
        · exact .inr ⟨hzO, by simp⟩
        · have : z ∉ u := fun c => (mu z c).elim hzL hzO
          exact .inl (by simp [hzL, eq this])
  have inH : ∀ {l : List Int}, l.Sublist u → (l.all fun z => decide (z ∈ H)) = true := fun hl => List.all_eq_true.2 fun z hz => decide_eq_true (su.subset (hl.subset hz))
  refine ⟨?_, ?_, lL, lO, m1, m2⟩
  · simp only [partB, intsO_ints, lot_ok hH (sL.trans su), inH sL, m1, lL, decide_true, Bool.and_self]
  · simp only [partB, intsO_ints, lot_ok hH (sO.trans su), inH sO, m2, lO, decide_true, Bool.and_self]
theorem atZ_rg (k : Kp s h rows) (hH : Hs h H) {i : Nat} (hi : i < rows.length) {z : Int} (hz : z ∈ H) : 0 ≤ atZ (rowN rows i) z ∧ atZ (rowN rows i) z < s := by
  obtain ⟨h0, h1⟩ := hH.rg z hz
  have hl := k.lenD hi
  refine k.st _ (k.getD hi) _ ?_
  unfold atZ
  rw [List.getD_eq_getElem?_getD, List.getElem?_eq_getElem (by omega : z.toNat < (rowN rows i).length)]
  exact List.getElem_mem _
theorem judge_told (k : Kp s h rows) (hH : Hs h H) {f : Nat} {sg : Bool} {x y : Nat} (hxy : x < y) (hy : y < rows.length) (hd : dst rows H x y ≤ need f sg) {u L O : List Int} {g : Int → Option Int} (eu : unl (rowN rows x) (rowN rows y) H = u) (eL : liarsF f sg u = L) (eO : othersF f sg u = O) (eg : shF sg (rowN rows x) (rowN rows y) L O = g) :
    judge s h rows H f sg (.int x) (.int y) (tI L) (tI O) (.tup ((H.map g).map stD)) = true := by
  obtain ⟨p1, p2, _⟩ := told_parts k hH hd eu eL eO eg
  have hs : shownB s H.length (.tup ((H.map g).map stD)) = true := by
    simp only [shownB, Bool.and_eq_true]
    refine ⟨by simp, List.all_eq_true.2 fun d hd' => ?_⟩
    rw [List.map_map] at hd'
    obtain ⟨z, hz, rfl⟩ := List.mem_map.1 hd'
    show stB s (stD (g z)) = true
    rw [← eg]
    unfold shF
    split
    · rfl
    · have r1 := atZ_rg k hH (by omega : x < rows.length) hz
      have r2 := atZ_rg k hH hy hz
      split
      · simp [stD, stB, isNum]; omega
      · simp [stD, stB, isNum]; omega
  have n1 : isNum ((rows.length : Int) - 1) (.int x) = true := by simp [isNum]; omega
  have n2 : isNum ((rows.length : Int) - 1) (.int y) = true := by simp [isNum]; omega
  have n3 : D.eqv (.int (x : Int)) (.int (y : Int)) = false := by
    rw [eqv_int]; exact decide_eq_false (by omega)
  simp only [judge, hs, n1, n2, n3, sOf_st, toNd, Int.toNat_natCast, p1, p2, Bool.not_false, Bool.and_self]
theorem two_readings (k : Kp s h rows) (hH : Hs h H) {f : Nat} {sg : Bool} {x y : Nat} (hxy : x < y) (hy : y < rows.length) (hd : dst rows H x y ≤ need f sg) {u L O : List Int} {g : Int → Option Int} (eu : unl (rowN rows x) (rowN rows y) H = u) (eL : liarsF f sg u = L) (eO : othersF f sg u = O) (eg : shF sg (rowN rows x) (rowN rows y) L O = g) :
    x ∈ rdL rows H (H.map g) f sg ∧ y ∈ rdL rows H (H.map g) f sg ∧ (rdL rows H (H.map g) f sg).length ≠ 1 := by
  obtain ⟨_, _, lL, lO, m1, m2⟩ := told_parts k hH hd eu eL eO eg
  have h1 : x ∈ rdL rows H (H.map g) f sg := List.mem_filter.2 ⟨List.mem_range.2 (by omega), rd_of hH lL m1⟩
  have h2 : y ∈ rdL rows H (H.map g) f sg := List.mem_filter.2 ⟨List.mem_range.2 hy, rd_of hH lO m2⟩
  refine ⟨h1, h2, fun e => ?_⟩
  obtain ⟨a, e⟩ := List.length_eq_one_iff.1 e
  rw [e] at h1 h2
  have := List.mem_singleton.1 h1
  have := List.mem_singleton.1 h2
  omega
end
end K40

namespace K40
open PySem PySem.Spec PyProof.Rows L2 Hl Vl
def W__law_rows_L2_R5 : WS := (wTput 4 (wC (.bl true)) (wVar 7))
def W__law_rows_L2_R4 : WS := (wSeq (wIf (wAnd (wTst (wOp gEq (wSl 3) (wOf (wC (.int 3))))) (wTst (wTne 4))) (wSeq (wSet (wCall W__law_pick [] (wCons (wSl 0) (wCons (wOf (wFz (wTlist 4))) wNil))) (gV 7)) (wFor (wRg1 (wCons (wOf (wOp gAdd (wOf (wC (.int 1))) (wOf (wCall W__law_draw [] (wCons (wSl 0) (wCons (wOf (wC (.int 4))) wNil)))))) wNil)) (gV 8) W__law_rows_L1)) wNext) W__law_rows_L2_R5)
def W__law_rows_L2_R3 : WS := (wSeq (wIf (wTst (wOp gEq (wSl 3) (wOf (wC (.int 2))))) (wSet (wCB gTuple (wCons (wOf (wFz (wLc (wRg1 (wCons (wSl 1) wNil)) (gV 11) wYes (wOp gMod (wOf (wCB gInt (wCons (wOf (wOp gAdd (wOf (wOp gIx (wSl 6) (wOf (wC (.int 0))))) (wOf (wOp gMul (wOf (wOp gIx (wSl 6) (wOf (wC (.int 1))))) (wOf (wOp gAdd (wSl 11) (wOf (wC (.int 1))))))))) wNil))) (wSl 2)) [11]))) wNil)) (gV 7)) wNext) W__law_rows_L2_R4)
def W__law_rows_L2_R2 : WS := (wSeq (wIf (wTst (wOp gEq (wSl 3) (wOf (wC (.int 1))))) (wSet (wOp gMulQ (wOf (wTup (wCons (wOf (wOp gIx (wSl 6) (wOf (wC (.int 0))))) wNil))) (wSl 1)) (gV 7)) wNext) W__law_rows_L2_R3)
def W__law_rows_L2_R1 : WS := (wSeq (wSet (wCB gTuple (wCons (wOf (wFz (wLc (wRg1 (wCons (wSl 1) wNil)) (gV 11) wYes (wCall W__law_draw [] (wCons (wSl 0) (wCons (wSl 2) wNil))) [11]))) wNil)) (gV 7)) W__law_rows_L2_R2)
theorem W__law_rows_L2_eq : W__law_rows_L2 =  (wSeq (wSet (wFz (wLc (wRg1 (wCons (wOf (wC (.int 2))) wNil)) (gV 10) wYes (wCall W__law_draw [] (wCons (wSl 0) (wCons (wSl 2) wNil))) [10])) (gV 6)) W__law_rows_L2_R1) := rfl
/-- a row as it must be -/
def GR (s : Int) (h : Nat) (r : List Int) : Prop := r.length = h ∧ ∀ x ∈ r, 0 ≤ x ∧ x < s
def GoodM (s : Int) (h : Nat) (m : List (List Int × D)) : Prop := (m.map (·.1)).Nodup ∧ ∀ r ∈ m.map (·.1), GR s h r
theorem GoodM.put {s : Int} {h : Nat} {m : List (List Int × D)} {r : List Int} {v : D} (g : GoodM s h m) (hr : GR s h r) : GoodM s h (putR m r v) := by
  unfold GoodM
  rw [putR_keys]
  split
  · exact g
  · rename_i hn
    refine ⟨?_, fun x hx => ?_⟩
    · rw [List.nodup_append]
      refine ⟨g.1, by simp, fun a ha b hb e => ?_⟩
      have : b = r := by simpa using hb
      subst this
      exact hn (e ▸ ha)
    · rcases List.mem_append.1 hx with hx | hx
      · exact g.2 x hx
      · have : x = r := by simpa using hx
        subst this
        exact hr
theorem putR_len {m : List (List Int × D)} {r : List Int} {v : D} : (putR m r v).length ≤ m.length + 1 ∧ 1 ≤ (putR m r v).length := by
  have e := congrArg List.length (putR_keys (m := m) (r := r) (v := v))
  rw [List.length_map] at e
  split at e
  · rename_i hr
    rw [List.length_map] at e
    have : 0 < (m.map (·.1)).length := List.length_pos_iff.2 (List.ne_nil_of_mem hr)
    rw [List.length_map] at this
    omega
  · simp at e
    omega
theorem kvR_keys (m : List (List Int × D)) : ((kvR m).map fun e => D.tup (e.1.map kD)) = (m.map (·.1)).map tI := by
  unfold kvR
  rw [List.map_map, List.map_map]
  congr 1
  funext e
  simp [Function.comp]
section
variable {s : Int} {h : Nat}
theorem rows_again {D' : EV} {c3 c4 c5 c6 : Cell} (hs : 2 ≤ s ∧ s ≤ 12) (hh : 1 ≤ h ∧ h ≤ 12) : ∀ (n : Nat) {lo : Int} {r : List Int} {c8 c9 : Cell}, GR s h r →
    (∀ r' d8 d9, GR s h r' → D'.nx [.val .hnd, .val (.int h), .val (.int s), c3, c4, c5, c6, .val (tI r'), d8, d9, .no, .no]) →
    forV (gV 8) W__law_rows_L1 (rgD lo n) D' [.val .hnd, .val (.int h), .val (.int s), c3, c4, c5, c6, .val (tI r), c8, c9, .no, .no]
  | 0, lo, r, c8, c9, hr, q => q _ _ _ hr
  | n + 1, lo, r, c8, c9, hr, q => by
    rw [rgD_succ, for_cons]
    have nx : ∀ r' d8 d9, GR s h r' → forV (gV 8) W__law_rows_L1 (rgD (lo + 1) n) D' [.val .hnd, .val (.int h), .val (.int s), c3, c4, c5, c6, .val (tI r'), d8, d9, .no, .no] := fun r' d8 d9 hr' =>
      rows_again hs hh n hr' q
    generalize forV (gV 8) W__law_rows_L1 (rgD (lo + 1) n) D' = F at *
    have s1 : (1 : Nat) ≤ sizeLine := by decide
    have a1 : (0 : Int) < h := by omega
    have a2 : (h : Int) < 1073741824 := by omega
    have a3 : (0 : Int) < s := by omega
    have a4 : s < 1073741824 := by omega
    simp [W__law_rows_L1, s1, a2, a3, a4]
    refine ⟨by omega, fun at_ at0 at1 x x0 x1 => ?_⟩
    obtain ⟨i, rfl⟩ : ∃ i : Nat, at_ = i := ⟨at_.toNat, by omega⟩
    have c1 : cutD (r.map D.int) none (some (i : Int)) = (r.take i).map D.int := by rw [cut_take, List.map_take]
    have c2 : cutD (r.map D.int) (some ((i : Int) + 1)) none = (r.drop (i + 1)).map D.int := by
      rw [cut_drop' (by omega), List.map_drop]
      congr 1
    have e3 : (r.take i).map D.int ++ (D.int x :: (r.drop (i + 1)).map D.int) = (r.take i ++ (x :: r.drop (i + 1))).map D.int := by simp
    have hr' : GR s h (r.take i ++ (x :: r.drop (i + 1))) := by
      refine ⟨by have := hr.1; simp; omega, fun y hy => ?_⟩
      rcases List.mem_append.1 hy with hy | hy
      · exact hr.2 y (List.mem_of_mem_take hy)
      · rcases List.mem_cons.1 hy with rfl | hy
        · exact ⟨x0, x1⟩
        · exact hr.2 y (List.mem_of_mem_drop hy)
    have z := nx _ (.val (.int lo)) (.val (.int (i : Int))) hr'
    have e4 : tI (r.take i ++ (x :: r.drop (i + 1))) = D.tup ((r.take i).map D.int ++ (D.int x :: (r.drop (i + 1)).map D.int)) := congrArg D.tup e3.symm
    rw [e4] at z
    rw [c1, c2]
    have lr := hr.1
    refine ⟨le_sz (by simp; omega), le_sz (by simp; omega), ?_⟩
    simpa using z
end
end K40

namespace K40
open PySem PySem.Spec PyProof.Rows L2 Hl Vl
section
variable {s : Int} {h N : Nat} {kd : Int} {D' : EV} {m : List (List Int × D)} {c5 c6 c7 c8 c9 : Cell}
/-- what a turn may end in -/
def TE' (s : Int) (h N : Nat) (kd : Int) (D' : EV) : Prop := ∀ (m' : List (List Int × D)) (d5 d6 d7 d8 d9 : Cell), GoodM s h m' → 1 ≤ m'.length → m'.length ≤ N + 1 → D'.nx [.val .hnd, .val (.int h), .val (.int s), .val (.int kd), .dit (kvR m'), d5, d6, d7, d8, d9, .no, .no]
theorem rows5 (q : TE' s h N kd D') (hN : N ≤ 100) (g : GoodM s h m) (hm : m.length ≤ N) {r : List Int} (hr : GR s h r) :
    W__law_rows_L2_R5 D' [.val .hnd, .val (.int h), .val (.int s), .val (.int kd), .dit (kvR m), c5, c6, .val (tI r), c8, c9, .no, .no] := by
  have hz : m.length < sizeLine := lt_sz (by omega)
  have l := putR_len (m := m) (r := r) (v := .bl true)
  simp [W__law_rows_L2_R5, hz]
  exact q _ _ _ _ _ _ (g.put hr) l.2 (by omega)
theorem rows4 (q : TE' s h N kd D') (hs : 2 ≤ s ∧ s ≤ 12) (hh : 1 ≤ h ∧ h ≤ 12) (hN : N ≤ 100) (g : GoodM s h m) (hm : m.length ≤ N) {r : List Int} (hr : GR s h r) :
    W__law_rows_L2_R4 D' [.val .hnd, .val (.int h), .val (.int s), .val (.int kd), .dit (kvR m), c5, c6, .val (tI r), c8, c9, .no, .no] := by
  have fin : ∀ {r' : List Int} {d8 d9 : Cell}, GR s h r' → W__law_rows_L2_R5 D' [.val .hnd, .val (.int h), .val (.int s), .val (.int kd), .dit (kvR m), c5, c6, .val (tI r'), d8, d9, .no, .no] := fun hr' => rows5 q hN g hm hr'
  unfold W__law_rows_L2_R4
  generalize W__law_rows_L2_R5 = R5 at *
  by_cases hk : kd = 3
  · cases em : m with
    | nil =>
      subst em
      subst hk
      simp [kvR, -forV]
      exact fin hr
    | cons e0 m0 =>
      have hne : kvR m ≠ [] := by rw [em]; simp [kvR]
      have hb : (kvR m).isEmpty = false := by rw [em]; rfl
      rw [← em]
      subst hk
      simp [hb, kvR_keys, -forV, -List.map_map]
      refine ⟨fun _ => ?_, fun z => absurd z hne⟩
      have hl : 0 < m.length := by rw [em]; simp
      refine pick_D (l := (m.map (·.1)).map tI) (by simpa using hl) (by simp; omega) fun x hx => ?_
      obtain ⟨r', hr', rfl⟩ := List.mem_map.1 hx
      have gr := g.2 r' hr'
      refine fun t t0 t1 => ⟨by omega, ?_⟩
      exact rows_again hs hh _ gr fun r2 d8 d9 h2 => fin h2
  · simp [hk, -forV]
    exact fin hr
/-- drawn numbers -/
theorem draws_lc {ρ : Vn} {n i : Nat} {Q : List D → Vn → Prop} (hs : 2 ≤ s ∧ s ≤ 12) (hn : n ≤ 1000) (h0 : ρ.set i .no = ρ) (hi0 : i ≠ 0) (hi2 : i ≠ 2) (e0 : ρ.getD 0 .no = .val .hnd) (e2 : ρ.getD 2 .no = .val (.int s))
    (hS : ∀ ns : List Int, ns.length = n → (∀ x ∈ ns, 0 ≤ x ∧ x < s) → Q (ns.map D.int) ρ) : lcV (gV i) wYes (wCall W__law_draw [] (wCons (wSl 0) (wCons (wSl 2) wNil))) [i] (rgD 0 n) [] ρ Q := by
  rw [rgD_map]
  refine lc_rel (fun j : Nat => D.int ((0 : Int) + (j : Nat))) (fun _ d => ∃ x : Int, d = .int x ∧ 0 ≤ x ∧ x < s) _ [] (fun a ha A k1 => ?_) h0 (by simp; exact le_sz (by omega)) fun out ho => ?_
  · have f0 : (ρ.set i (.val (.int ((0 : Int) + (a : Nat))))).getD 0 .no = .val .hnd := by
      rw [List.getD_eq_getElem?_getD, List.getElem?_set_ne hi0, ← List.getD_eq_getElem?_getD, e0]
    have f2 : (ρ.set i (.val (.int ((0 : Int) + (a : Nat))))).getD 2 .no = .val (.int s) := by
      rw [List.getD_eq_getElem?_getD, List.getElem?_set_ne hi2, ← List.getD_eq_getElem?_getD, e2]
    generalize ρ.set i (.val (.int ((0 : Int) + (a : Nat)))) = ρ1 at *
    rw [List.getD_eq_getElem?_getD] at f0 f2
    have a3 : (0 : Int) < s := by omega
    have a4 : s < 1073741824 := by omega
    simp [f0, f2, a3, a4]
    exact fun r r0 r1 => k1 _ ⟨r, rfl, r0, r1⟩
  · obtain ⟨ns, rfl, hns⟩ := ho.map (enc := D.int) (T := fun _ x => 0 ≤ x ∧ x < s) fun a d ⟨x, h1, h2⟩ => ⟨x, h1, h2⟩
    rw [List.nil_append]
    refine hS ns (by have := ho.len; simpa using this) fun x hx => ?_
    obtain ⟨_, _, h2⟩ := hns x hx
    exact h2
end
end K40

namespace K40
open PySem PySem.Spec PyProof.Rows L2 Hl Vl
section
variable {s : Int} {h N : Nat} {kd : Int} {D' : EV} {m : List (List Int × D)} {c5 c6 c7 c8 c9 : Cell}
theorem rows3 (q : TE' s h N kd D') (hs : 2 ≤ s ∧ s ≤ 12) (hh : 1 ≤ h ∧ h ≤ 12) (hN : N ≤ 100) (g : GoodM s h m) (hm : m.length ≤ N) {r : List Int} (hr : GR s h r) {a b : Int} (ha : 0 ≤ a ∧ a < s) (hb : 0 ≤ b ∧ b < s) :
    W__law_rows_L2_R3 D' [.val .hnd, .val (.int h), .val (.int s), .val (.int kd), .dit (kvR m), c5, .val (lI [a, b]), .val (tI r), c8, c9, .no, .no] := by
  have fin : ∀ {r' : List Int} {d8 d9 : Cell}, GR s h r' → W__law_rows_L2_R4 D' [.val .hnd, .val (.int h), .val (.int s), .val (.int kd), .dit (kvR m), c5, .val (lI [a, b]), .val (tI r'), d8, d9, .no, .no] := fun hr' => rows4 q hs hh hN g hm hr'
  unfold W__law_rows_L2_R3
  generalize W__law_rows_L2_R4 = R4 at *
  by_cases hk : kd = 2
  · subst hk
    have hr' : GR s h ((List.range h).map fun (j : Nat) => (a + b * ((j : Int) + 1)) % s) := by
      refine ⟨by simp, fun x hx => ?_⟩
      obtain ⟨j, _, rfl⟩ := List.mem_map.1 hx
      exact ⟨Int.emod_nonneg _ (by omega), Int.emod_lt_of_pos _ (by omega)⟩
    have z := fin (d8 := c8) (d9 := c9) hr'
    simp [-lcV]
    refine ⟨by omega, ?_⟩
    rw [rgD_map]
    refine lc_m (fun j : Nat => D.int ((0 : Int) + (j : Nat))) (fun j : Nat => D.int ((a + b * ((j : Int) + 1)) % s)) (List.range h) (fun j hj A B k1 => ?_) rfl (by simp; exact le_sz (by omega)) ?_
    · have hj' := List.mem_range.1 hj
      simp at k1 ⊢
      exact ⟨mul_small (by omega) (by omega), by omega, k1⟩
    · have e : tI ((List.range h).map fun (j : Nat) => (a + b * ((j : Int) + 1)) % s) = D.tup ((List.range h).map fun (j : Nat) => D.int ((a + b * ((j : Int) + 1)) % s)) := congrArg D.tup (by rw [List.map_map]; rfl)
      rw [e] at z
      simpa using z
  · simp [hk, -lcV]
    exact fin hr
theorem rows2 (q : TE' s h N kd D') (hs : 2 ≤ s ∧ s ≤ 12) (hh : 1 ≤ h ∧ h ≤ 12) (hN : N ≤ 100) (g : GoodM s h m) (hm : m.length ≤ N) {r : List Int} (hr : GR s h r) {a b : Int} (ha : 0 ≤ a ∧ a < s) (hb : 0 ≤ b ∧ b < s) :
    W__law_rows_L2_R2 D' [.val .hnd, .val (.int h), .val (.int s), .val (.int kd), .dit (kvR m), c5, .val (lI [a, b]), .val (tI r), c8, c9, .no, .no] := by
  have fin : ∀ {r' : List Int} {d8 d9 : Cell}, GR s h r' → W__law_rows_L2_R3 D' [.val .hnd, .val (.int h), .val (.int s), .val (.int kd), .dit (kvR m), c5, .val (lI [a, b]), .val (tI r'), d8, d9, .no, .no] := fun hr' => rows3 q hs hh hN g hm hr' ha hb
  unfold W__law_rows_L2_R2
  generalize W__law_rows_L2_R3 = R3 at *
  by_cases hk : kd = 1
  · subst hk
    have hr' : GR s h (List.replicate h a) := ⟨by simp, fun x hx => by rw [(List.mem_replicate.1 hx).2]; exact ha⟩
    have z := fin (d8 := c8) (d9 := c9) hr'
    have er : repD [D.int a] h = (List.replicate h a).map D.int := by
      rw [List.map_replicate]
      unfold repD
      simp
    have s1 : (1 : Nat) ≤ sizeLine := by decide
    simp [s1, er]
    refine ⟨by omega, ?_⟩
    have e : tI (List.replicate h a) = D.tup (List.replicate h (D.int a)) := congrArg D.tup List.map_replicate
    rw [e] at z
    simpa using z
  · simp [hk]
    exact fin hr
end
end K40

namespace K40
open PySem PySem.Spec PyProof.Rows L2 Hl Vl
section
variable {s : Int} {h N : Nat} {kd : Int} {D' : EV} {m : List (List Int × D)} {c5 c6 c7 c8 c9 : Cell}
theorem rows1 (q : TE' s h N kd D') (hs : 2 ≤ s ∧ s ≤ 12) (hh : 1 ≤ h ∧ h ≤ 12) (hN : N ≤ 100) (g : GoodM s h m) (hm : m.length ≤ N) {a b : Int} (ha : 0 ≤ a ∧ a < s) (hb : 0 ≤ b ∧ b < s) :
    W__law_rows_L2_R1 D' [.val .hnd, .val (.int h), .val (.int s), .val (.int kd), .dit (kvR m), c5, .val (lI [a, b]), c7, c8, c9, .no, .no] := by
  have fin : ∀ {r' : List Int} {d8 d9 : Cell}, GR s h r' → W__law_rows_L2_R2 D' [.val .hnd, .val (.int h), .val (.int s), .val (.int kd), .dit (kvR m), c5, .val (lI [a, b]), .val (tI r'), d8, d9, .no, .no] := fun hr' => rows2 q hs hh hN g hm hr' ha hb
  unfold W__law_rows_L2_R1
  generalize W__law_rows_L2_R2 = R2 at *
  simp [-lcV]
  refine ⟨by omega, ?_⟩
  refine draws_lc hs (by omega) rfl (by decide) (by decide) rfl rfl fun ns hl hx => ?_
  simpa using fin (d8 := c8) (d9 := c9) ⟨hl, hx⟩
theorem rows0 (q : TE' s h N kd D') (hs : 2 ≤ s ∧ s ≤ 12) (hh : 1 ≤ h ∧ h ≤ 12) (hN : N ≤ 100) (g : GoodM s h m) (hm : m.length ≤ N) :
    W__law_rows_L2 D' [.val .hnd, .val (.int h), .val (.int s), .val (.int kd), .dit (kvR m), c5, c6, c7, c8, c9, .no, .no] := by
  have fin : ∀ {a b : Int} {d7 d8 d9 : Cell}, 0 ≤ a ∧ a < s → 0 ≤ b ∧ b < s → W__law_rows_L2_R1 D' [.val .hnd, .val (.int h), .val (.int s), .val (.int kd), .dit (kvR m), c5, .val (lI [a, b]), d7, d8, d9, .no, .no] := fun ha hb => rows1 q hs hh hN g hm ha hb
  rw [W__law_rows_L2_eq]
  generalize W__law_rows_L2_R1 = R1 at *
  simp [-lcV]
  refine draws_lc (n := 2) hs (by omega) rfl (by decide) (by decide) rfl rfl fun ns hl hx => ?_
  obtain ⟨a, b, rfl⟩ : ∃ a b, ns = [a, b] := by
    match ns, hl with
    | [a, b], _ => exact ⟨a, b, rfl⟩
  simp
  exact fin (d7 := c7) (d8 := c8) (d9 := c9) (hx a (by simp)) (hx b (by simp))
theorem rows_loop (hs : 2 ≤ s ∧ s ≤ 12) (hh : 1 ≤ h ∧ h ≤ 12) : ∀ (n : Nat) {lo : Int} {m : List (List Int × D)} {c5 c6 c7 c8 c9 : Cell}, GoodM s h m → m.length + n ≤ 24 → (1 ≤ m.length ∨ 1 ≤ n) →
    (∀ (m' : List (List Int × D)) (d5 d6 d7 d8 d9 : Cell), GoodM s h m' → 1 ≤ m'.length → m'.length ≤ 24 → D'.nx [.val .hnd, .val (.int h), .val (.int s), .val (.int kd), .dit (kvR m'), d5, d6, d7, d8, d9, .no, .no]) →
    forV (gV 5) W__law_rows_L2 (rgD lo n) D' [.val .hnd, .val (.int h), .val (.int s), .val (.int kd), .dit (kvR m), c5, c6, c7, c8, c9, .no, .no]
  | 0, lo, m, c5, c6, c7, c8, c9, g, h1, h2, q => q m _ _ _ _ _ g (by omega) (by omega)
  | n + 1, lo, m, c5, c6, c7, c8, c9, g, h1, h2, q => by
    rw [rgD_succ, for_cons]
    refine rows0 (N := m.length) (fun m' d5 d6 d7 d8 d9 g' l1 l2 => ?_) hs hh (by omega) g (Nat.le_refl _)
    exact rows_loop hs hh n g' (by omega) (.inl l1) q
end
def decI : D → List Int
  | .tup l => (intsO l).getD []
  | _ => []
@[simp] theorem decI_tI (r : List Int) : decI (tI r) = r := by simp [decI]
theorem perm_tI {l : List D} {ks : List (List Int)} (p : l.Perm (ks.map tI)) : ∃ rows : List (List Int), l = rows.map tI ∧ rows.Perm ks := by
  refine ⟨l.map decI, ?_, ?_⟩
  · rw [List.map_map]
    have : l.map (tI ∘ decI) = l.map id := List.map_congr_left fun d hd => by
      obtain ⟨r, _, rfl⟩ := List.mem_map.1 (p.mem_iff.1 hd)
      simp
    rw [this, List.map_id]
  · have := p.map decI
    rw [List.map_map] at this
    have e : ks.map (decI ∘ tI) = ks.map id := List.map_congr_left fun r _ => by simp
    rw [e, List.map_id] at this
    exact this
theorem law_rows_ok {h : Nat} (hh : 1 ≤ h ∧ h ≤ 12) {Q : D → Prop} (q : ∀ (s : Int) (rows : List (List Int)), Kp s h rows → rows.length ≤ 24 → Q (.tup [.int s, .tup (rows.map tI)])) : W__law_rows [.hnd, .int h] Q := by
  have s3 : (3 : Nat) ≤ sizeLine := by decide
  have s2 : (2 : Nat) ≤ sizeLine := by decide
  simp [W__law_rows, -forV]
  refine ⟨s3, pick_D (l := [.int 1, .int 3, .int 11]) (by simp) (by simp) fun x hx => ?_⟩
  have hx' : ∃ t : Int, x = .int t ∧ 1 ≤ t ∧ t ≤ 11 := by
    simp at hx
    rcases hx with rfl | rfl | rfl
    · exact ⟨1, rfl, by decide, by decide⟩
    · exact ⟨3, rfl, by decide, by decide⟩
    · exact ⟨11, rfl, by decide, by decide⟩
  obtain ⟨t, rfl, t1, t2⟩ := hx'
  simp [-forV]
  refine ⟨by omega, by omega, fun r r0 r1 kd k0 k1 => ⟨s3, fun n n0 n1 => ⟨by omega, ?_⟩⟩⟩
  refine rows_loop (s := 2 + r) (h := h) (kd := kd) (m := []) ⟨by omega, by omega⟩ hh _ ⟨by simp, by simp⟩ (by simp; omega) (.inr (by omega)) fun m' d5 d6 d7 d8 d9 g l1 l2 => ?_
  simp [kvR_keys, -List.map_map]
  refine mixed_ok (pool := (m'.map (·.1)).map tI) (by simp; omega) fun l hl => ?_
  obtain ⟨rows, rfl, hp⟩ := perm_tI hl
  have hlen : rows.length = m'.length := by rw [hp.length_eq, List.length_map]
  have K : Kp (2 + r) h rows := ⟨by omega, by omega, by omega, by omega, hh.1, hh.2, hp.nodup_iff.2 g.1, fun x hx => (g.2 x (hp.mem_iff.1 hx)).1, fun x hx => (g.2 x (hp.mem_iff.1 hx)).2⟩
  simp [s2, -List.map_map]
  exact q _ rows K (by omega)
end K40

namespace K40
open PySem PySem.Spec PyProof.Rows L2 Hl Vl
/-! _law_bent: what the parts may be -/
/-- five parts -/
def Pt (d : D) : Prop := ∃ a b c e g : D, d = .tup [a, b, c, e, g] ∧ Pst a ∧ Pst b ∧ Plt c ∧ Plt e ∧ Psh g
theorem pt_mk {a b c e g : D} (h1 : Pst a) (h2 : Pst b) (h3 : Plt c) (h4 : Plt e) (h5 : Psh g) : Pt (.tup [a, b, c, e, g]) := ⟨a, b, c, e, g, rfl, h1, h2, h3, h4, h5⟩
theorem ev_parts {ρ : Vn} {e1 e2 e3 e4 e5 : WE} (h1 : Ev e1 ρ Pst) (h2 : Ev e2 ρ Pst) (h3 : Ev e3 ρ Plt) (h4 : Ev e4 ρ Plt) (h5 : Ev e5 ρ Psh) :
    Ev (wTup (wCons (wOf e1) (wCons (wOf e2) (wCons (wOf e3) (wCons (wOf e4) (wCons (wOf e5) wNil)))))) ρ Pt := ⟨fun K k =>
  h1.h _ fun a ha => h2.h _ fun b hb => h3.h _ fun c hc => h4.h _ fun e he => h5.h _ fun g hg => by
    have s5 : (5 : Nat) ≤ sizeLine := by decide
    exact ⟨s5, k _ (pt_mk ha hb hc he hg)⟩⟩
end K40

namespace K40
open PySem PySem.Spec PyProof.Rows L2 Hl Vl
def W__law_bent_R8 : WS := (wRet (wCallP WP__law_pick (wCons (wSl 0) (wCons (wSl 13) wNil))))
def W__law_bent_R7 : WS := (wSeq (wIf (wTst (wOp gNe (wSl 9) (wOf (wTup wNil)))) (wSeq (wSet (wCall W__law_draw [] (wCons (wSl 0) (wCons (wOf (wCB gLen (wCons (wSl 9) wNil))) wNil))) (gV 14)) (wSeq (wFor (wIt (wOf (wFz (wLst (wCons (wOf (wVar 12)) (wCons (wOf (wC .non)) (wCons (wOf (wVar 1)) (wCons (wOf (wC (.str "0"))) (wCons (wOf (wC (.bl true))) (wCons (wOf (wOp gIx (wOf (wOp gIx (wSl 2) (wSl 5))) (wOf (wOp gIx (wSl 3) (wSl 14))))) (wCons (wOf (wOp gIx (wOf (wOp gIx (wSl 2) (wSl 6))) (wOf (wOp gIx (wSl 3) (wSl 14))))) (wCons (wOf (wOp gIx (wOf (wOp gIx (wSl 2) (wSl 10))) (wOf (wOp gIx (wSl 3) (wSl 14))))) wNil)))))))))))) (gV 15) W__law_bent_L1) (wSetF 13 (wOpF fCat (wSl 13) (wOf (wFz (wLst (wCons (wOf (wTup (wCons (wOf (wVar 5)) (wCons (wOf (wVar 6)) (wCons (wOf (wVar 7)) (wCons (wOf (wVar 8)) (wCons (wOf (wSl3 (wSl 9) (wPS (wC (.int 1))) wPN)) wNil))))))) (wCons (wOf (wTup (wCons (wOf (wVar 5)) (wCons (wOf (wVar 6)) (wCons (wOf (wVar 7)) (wCons (wOf (wVar 8)) (wCons (wOf (wOp gAdd (wSl 9) (wOf (wTup (wCons (wOf (wVar 12)) wNil))))) wNil))))))) wNil))))))))) wNext) W__law_bent_R8)
def W__law_bent_R6 : WS := (wSeq (wSetF 13 (wOpF fCat (wSl 13) (wOf (wFz (wLst (wCons (wOf (wTup (wCons (wOf (wVar 5)) (wCons (wOf (wCB gLen (wCons (wSl 2) wNil))) (wCons (wOf (wVar 7)) (wCons (wOf (wVar 8)) (wCons (wOf (wVar 9)) wNil))))))) (wCons (wOf (wTup (wCons (wOf (wVar 5)) (wCons (wOf (wOp gSub (wOf (wC (.int 0))) (wOf (wC (.int 1))))) (wCons (wOf (wVar 7)) (wCons (wOf (wVar 8)) (wCons (wOf (wVar 9)) wNil))))))) (wCons (wOf (wTup (wCons (wOf (wC .non)) (wCons (wOf (wVar 6)) (wCons (wOf (wVar 7)) (wCons (wOf (wVar 8)) (wCons (wOf (wVar 9)) wNil))))))) (wCons (wOf (wTup (wCons (wOf (wVar 5)) (wCons (wOf (wCB gStr (wCons (wSl 6) wNil))) (wCons (wOf (wVar 7)) (wCons (wOf (wVar 8)) (wCons (wOf (wVar 9)) wNil))))))) (wCons (wOf (wVar 4)) wNil)))))))))) W__law_bent_R7)
def W__law_bent_R5 : WS := (wSeq (wSetF 13 (wOpF fCat (wSl 13) (wOf (wFz (wLst (wCons (wOf (wTup (wCons (wOf (wVar 5)) (wCons (wOf (wVar 6)) (wCons (wOf (wVar 7)) (wCons (wOf (wC .non)) (wCons (wOf (wVar 9)) wNil))))))) (wCons (wOf (wTup (wCons (wOf (wVar 5)) (wCons (wOf (wVar 6)) (wCons (wOf (wVar 7)) (wCons (wOf (wVar 8)) (wCons (wOf (wFz (wCBF fList (wCons (wSl 9) wNil)))) wNil))))))) (wCons (wOf (wTup (wCons (wOf (wVar 5)) (wCons (wOf (wVar 6)) (wCons (wOf (wVar 7)) (wCons (wOf (wVar 8)) (wCons (wOf (wC .non)) wNil))))))) (wCons (wOf (wTup (wCons (wOf (wOp gEq (wSl 5) (wOf (wC (.int 1))))) (wCons (wOf (wVar 6)) (wCons (wOf (wVar 7)) (wCons (wOf (wVar 8)) (wCons (wOf (wVar 9)) wNil))))))) wNil))))))))) W__law_bent_R6)
def W__law_bent_R4 : WS := (wSeq (wSetF 13 (wOpF fCat (wSl 13) (wOf (wFz (wLst (wCons (wOf (wTup (wCons (wOf (wVar 5)) (wCons (wOf (wVar 6)) (wCons (wOf (wCB gTuple (wCons (wOf (wFz (wCBF fSortedP (wCons (wOf (wCB gSet (wCons (wOf (wOp gAdd (wSl 7) (wOf (wTup (wCons (wOf (wVar 11)) wNil))))) wNil))) wNil)))) wNil))) (wCons (wOf (wVar 8)) (wCons (wOf (wVar 9)) wNil))))))) (wCons (wOf (wTup (wCons (wOf (wVar 5)) (wCons (wOf (wVar 6)) (wCons (wOf (wOp gAdd (wSl 7) (wOf (wTup (wCons (wOf (wVar 11)) wNil))))) (wCons (wOf (wVar 8)) (wCons (wOf (wVar 9)) wNil))))))) (wCons (wOf (wTup (wCons (wOf (wVar 5)) (wCons (wOf (wVar 6)) (wCons (wOf (wFz (wCBF fList (wCons (wSl 7) wNil)))) (wCons (wOf (wVar 8)) (wCons (wOf (wVar 9)) wNil))))))) wNil)))))))) W__law_bent_R5)
def W__law_bent_R3 : WS := (wSeq (wSetF 13 (wOpF fCat (wSl 13) (wOf (wFz (wLst (wCons (wOf (wTup (wCons (wOf (wVar 6)) (wCons (wOf (wVar 5)) (wCons (wOf (wVar 7)) (wCons (wOf (wVar 8)) (wCons (wOf (wVar 9)) wNil))))))) (wCons (wOf (wTup (wCons (wOf (wVar 5)) (wCons (wOf (wVar 6)) (wCons (wOf (wVar 8)) (wCons (wOf (wVar 7)) (wCons (wOf (wVar 9)) wNil))))))) (wCons (wOf (wTup (wCons (wOf (wVar 5)) (wCons (wOf (wVar 6)) (wCons (wOf (wSl3 (wSl 7) (wPS (wC (.int 1))) wPN)) (wCons (wOf (wVar 8)) (wCons (wOf (wVar 9)) wNil))))))) (wCons (wOf (wTup (wCons (wOf (wVar 5)) (wCons (wOf (wVar 6)) (wCons (wOf (wVar 7)) (wCons (wOf (wSl3 (wSl 8) wPN (wPS (wUn gNeg (wC (.int 1)))))) (wCons (wOf (wVar 9)) wNil))))))) wNil))))))))) W__law_bent_R4)
def W__law_bent_R2 : WS := (wSeq (wSetF 13 (wLst (wCons (wOf (wTup (wCons (wOf (wVar 10)) (wCons (wOf (wVar 6)) (wCons (wOf (wVar 7)) (wCons (wOf (wVar 8)) (wCons (wOf (wVar 9)) wNil))))))) (wCons (wOf (wTup (wCons (wOf (wVar 5)) (wCons (wOf (wVar 10)) (wCons (wOf (wVar 7)) (wCons (wOf (wVar 8)) (wCons (wOf (wVar 9)) wNil))))))) (wCons (wOf (wTup (wCons (wOf (wVar 5)) (wCons (wOf (wVar 5)) (wCons (wOf (wVar 7)) (wCons (wOf (wVar 7)) (wCons (wOf (wVar 9)) wNil))))))) (wCons (wOf (wTup (wCons (wOf (wVar 6)) (wCons (wOf (wVar 5)) (wCons (wOf (wVar 8)) (wCons (wOf (wVar 7)) (wCons (wOf (wVar 9)) wNil))))))) wNil)))))) W__law_bent_R3)
def W__law_bent_R1 : WS := (wSeq (wPar3 10 11 12 (wQc (wQv (wCall W__law_draw [] (wCons (wSl 0) (wCons (wOf (wCB gLen (wCons (wSl 2) wNil))) wNil)))) (wQc (wQv (wCall W__law_draw [] (wCons (wSl 0) (wCons (wOf (wCB gLen (wCons (wOf (wOp gIx (wSl 2) (wOf (wC (.int 0))))) wNil))) wNil)))) (wQc (wQv (wCall W__law_draw [] (wCons (wSl 0) (wCons (wSl 1) wNil)))) wQn)))) W__law_bent_R2)
theorem W__law_bent_eq : W__law_bent = wDef 5 16 (wSeq (wSet (wVar 4) (gTupV 5 (gConsV (gV 5) (gConsV (gV 6) (gConsV (gV 7) (gConsV (gV 8) (gConsV (gV 9) gNilV))))))) W__law_bent_R1) := rfl
section
variable {ρ : Vn} {u : WA} {n i : Nat} {S : D → Prop} {D' : EV} {z : WS}
theorem seq_lst (h : EvL u ρ n S) (hn : n ≤ 1000) (k : ∀ ds : List D, ds.length = n → (∀ d ∈ ds, S d) → z D' (ρ.set i (.own ds))) : wSeq (wSetF i (wLst u)) z D' ρ := h.h _ fun ds hl ha => by
  rw [shN_ds]
  exact ⟨le_sz (by omega), k ds hl ha⟩
theorem set_cat {L : List D} (hi : ρ.getD i .no = .own L) (h : EvL u ρ n S) (hL : L.length + n ≤ 1000) (k : ∀ ds : List D, ds.length = n → (∀ d ∈ ds, S d) → D'.nx (ρ.set i (.own (L ++ ds)))) : wSetF i (wOpF fCat (wSl i) (wOf (wFz (wLst u)))) D' ρ := by
  simp only [wSetF, wOpF, wSl, wOf, hi, cRd, wFz, wLst]
  refine h.h _ fun ds hl ha => ?_
  rw [shN_ds]
  refine ⟨le_sz (by omega), ?_⟩
  simp only [rs1, hi, cRd, fCat]
  exact ⟨le_sz (by omega), k ds hl ha⟩
theorem seq_cat {L : List D} (hi : ρ.getD i .no = .own L) (h : EvL u ρ n S) (hL : L.length + n ≤ 1000) (k : ∀ ds : List D, ds.length = n → (∀ d ∈ ds, S d) → z D' (ρ.set i (.own (L ++ ds)))) : wSeq (wSetF i (wOpF fCat (wSl i) (wOf (wFz (wLst u))))) z D' ρ :=
  set_cat (D' := { D' with nx := z D' }) hi h hL k
end
end K40

namespace K40
open PySem PySem.Spec PyProof.Rows L2 Hl Vl
theorem pickP_ok {l : List D} {Q : D → Prop} (h0 : 0 < l.length) (hz : l.length ≤ 100000) (h : ∀ x ∈ l, Q x) : WP__law_pick [.v .hnd, .p l] Q := by
  simp [WP__law_pick]
  refine ⟨by simp [List.filter], h0, by omega, fun r r0 r1 => ?_⟩
  obtain ⟨v, hv, e⟩ := Vl.atI_pickD (l := l) r0 r1
  rw [e]
  exact h v hv
/-- what stands where the bent lists are made -/
abbrev bSt (s : Int) (rows : List (List Int)) (H : List Int) (pa : D) (x y : Int) (L O : List Int) (S : List (Option Int)) (v ho st : Int) (c13 c14 c15 : Cell) : Vn :=
  [.val .hnd, .val (.int s), .val (.tup (rows.map tI)), .val (tI H), .val pa, .val (.int x), .val (.int y), .val (tI L), .val (tI O), .val (.tup (S.map stD)), .val (.int v), .val (.int ho), .val (.int st), c13, c14, c15]
theorem pst_st (o : Option Int) : Pst (stD o) := by cases o <;> constructor
theorem psh_st {S : List (Option Int)} (h : S.length ≤ 60) : Psh (.tup (S.map stD)) := .tup _ (fun d hd => by obtain ⟨o, _, rfl⟩ := List.mem_map.1 hd; exact pst_st o) (by simpa using h)
section
variable {s : Int} {rows : List (List Int)} {H : List Int} {pa : D} {x y v ho st : Int} {L O : List Int} {S : List (Option Int)} {c13 c14 c15 : Cell}
theorem e5 : Ev (wVar 5) (bSt s rows H pa x y L O S v ho st c13 c14 c15) Pst := Ev.var rfl (.int _)
theorem e6 : Ev (wVar 6) (bSt s rows H pa x y L O S v ho st c13 c14 c15) Pst := Ev.var rfl (.int _)
theorem e10 : Ev (wVar 10) (bSt s rows H pa x y L O S v ho st c13 c14 c15) Pst := Ev.var rfl (.int _)
theorem e7 (h : L.length ≤ 50) : Ev (wVar 7) (bSt s rows H pa x y L O S v ho st c13 c14 c15) Plt := Ev.var rfl (.tup L (by omega))
theorem e8 (h : O.length ≤ 50) : Ev (wVar 8) (bSt s rows H pa x y L O S v ho st c13 c14 c15) Plt := Ev.var rfl (.tup O (by omega))
theorem e9 (h : S.length ≤ 50) : Ev (wVar 9) (bSt s rows H pa x y L O S v ho st c13 c14 c15) Psh := Ev.var rfl (psh_st (by omega))
theorem bent_R8 {D' : EV} {ts : List D} (h0 : 0 < ts.length) (hz : ts.length ≤ 1000) (hp : ∀ d ∈ ts, Pt d) (q : ∀ d, Pt d → D'.rt d) : W__law_bent_R8 D' (bSt s rows H pa x y L O S v ho st (.own ts) c14 c15) := by
  simp [W__law_bent_R8]
  exact pickP_ok h0 (by omega) fun d hd => q d (hp d hd)
theorem sortU_le (ns : List Int) : (sortU ns).length ≤ ns.length := (nodup_of_lt (sortU_sorted ns)).length_le_of_subset fun x h => (sortU_mem ns x).1 h
theorem plt_init {O : List Int} (hO : O.length ≤ 50) : Plt (.tup (cutD (O.map D.int) none (some (-1)))) := by
  rcases List.eq_nil_or_concat O with rfl | ⟨l, z, rfl⟩
  · exact .tup [] (by simp)
  · rw [List.concat_eq_append, List.map_append, List.map_cons, List.map_nil, cut_init]
    exact .tup l (by simp at hO; omega)
def Bn (ts : List D) (n : Nat) : Prop := 0 < ts.length ∧ ts.length ≤ n ∧ ∀ d ∈ ts, Pt d
theorem Bn.app {ts ds : List D} {n m : Nat} (h : Bn ts n) (hl : ds.length = m) (hd : ∀ d ∈ ds, Pt d) : Bn (ts ++ ds) (n + m) :=
  ⟨by have := h.1; simp; omega, by have := h.2.1; simp; omega, fun d hd' => (List.mem_append.1 hd').elim (h.2.2 d) (hd d)⟩
theorem bent_R3 {D' : EV} {ts : List D} {n : Nat} (hb : Bn ts n) (hn : n ≤ 900) (hL : L.length ≤ 50) (hO : O.length ≤ 50) (hS : S.length ≤ 50)
   (k : ∀ ts : List D, Bn ts (n + 4) → W__law_bent_R4 D' (bSt s rows H pa x y L O S v ho st (.own ts) c14 c15)) : W__law_bent_R3 D' (bSt s rows H pa x y L O S v ho st (.own ts) c14 c15) := by
  have h2 := hb.2.1
  unfold W__law_bent_R3
  refine seq_cat (S := Pt) (n := 4) rfl (.cons (ev_parts e6 e5 (e7 hL) (e8 hO) (e9 hS)) (.cons (ev_parts e5 e6 (e8 hO) (e7 hL) (e9 hS)) (.cons (ev_parts e5 e6 ⟨fun K k => ?_⟩ (e8 hO) (e9 hS)) (.cons (ev_parts e5 e6 (e7 hL) ⟨fun K k => ?_⟩ (e9 hS)) .nil)))) (by omega) fun ds h1 h2 => k _ (hb.app h1 h2)
  · simp
    rw [show (L.map D.int).tail = (L.tail).map D.int by cases L <;> rfl]
    exact k _ (.tup _ (by simp; omega))
  · simp
    exact k _ (plt_init hO)
theorem bent_R4 {D' : EV} {ts : List D} {n : Nat} (hb : Bn ts n) (hn : n ≤ 900) (hL : L.length ≤ 50) (hO : O.length ≤ 50) (hS : S.length ≤ 50)
   (k : ∀ ts : List D, Bn ts (n + 3) → W__law_bent_R5 D' (bSt s rows H pa x y L O S v ho st (.own ts) c14 c15)) : W__law_bent_R4 D' (bSt s rows H pa x y L O S v ho st (.own ts) c14 c15) := by
  have h2 := hb.2.1
  unfold W__law_bent_R4
  refine seq_cat (S := Pt) (n := 3) rfl (.cons (ev_parts e5 e6 ⟨fun K k => ?_⟩ (e8 hO) (e9 hS)) (.cons (ev_parts e5 e6 ⟨fun K k => ?_⟩ (e8 hO) (e9 hS)) (.cons (ev_parts e5 e6 ⟨fun K k => ?_⟩ (e8 hO) (e9 hS)) .nil))) (by omega) fun ds h1 h2 => k _ (hb.app h1 h2)
  · simp
    have hl := sortU_le (L ++ [ho])
    simp at hl
    have hi : intsO (L.map D.int ++ [D.int ho]) = some (L ++ [ho]) := by
      rw [show L.map D.int ++ [D.int ho] = (L ++ [ho]).map D.int by simp, intsO_ints]
    rw [hi]
    refine ⟨le_sz (by omega), le_sz (by omega), by simp; omega, by omega, k _ (.tup _ (by omega))⟩
  · simp
    rw [show L.map D.int ++ [D.int ho] = (L ++ [ho]).map D.int by simp]
    exact ⟨le_sz (by omega), le_sz (by omega), k _ (.tup _ (by simp; omega))⟩
  · simp
    exact k _ (.lst _)
theorem bent_R5 {D' : EV} {ts : List D} {n : Nat} (hb : Bn ts n) (hn : n ≤ 900) (hL : L.length ≤ 50) (hO : O.length ≤ 50) (hS : S.length ≤ 50)
   (k : ∀ ts : List D, Bn ts (n + 4) → W__law_bent_R6 D' (bSt s rows H pa x y L O S v ho st (.own ts) c14 c15)) : W__law_bent_R5 D' (bSt s rows H pa x y L O S v ho st (.own ts) c14 c15) := by
  have h2 := hb.2.1
  unfold W__law_bent_R5
  refine seq_cat (S := Pt) (n := 4) rfl (.cons (ev_parts e5 e6 (e7 hL) (.cst .non) (e9 hS)) (.cons (ev_parts e5 e6 (e7 hL) (e8 hO) ⟨fun K k => ?_⟩) (.cons (ev_parts e5 e6 (e7 hL) (e8 hO) (.cst .non)) (.cons (ev_parts ⟨fun K k => ?_⟩ e6 (e7 hL) (e8 hO) (e9 hS)) .nil)))) (by omega) fun ds h1 h2 => k _ (hb.app h1 h2)
  · simp
    exact k _ (.lst _ (by simp; omega))
  · simp
    exact k _ (.bl _)
theorem bent_R6 {D' : EV} {ts : List D} {n : Nat} (hb : Bn ts n) (hn : n ≤ 900) (hL : L.length ≤ 50) (hO : O.length ≤ 50) (hS : S.length ≤ 50) (hpa : Pt pa) (hy : 0 ≤ y ∧ y ≤ 1000) (hr : rows.length ≤ 1000)
   (k : ∀ ts : List D, Bn ts (n + 5) → W__law_bent_R7 D' (bSt s rows H pa x y L O S v ho st (.own ts) c14 c15)) : W__law_bent_R6 D' (bSt s rows H pa x y L O S v ho st (.own ts) c14 c15) := by
  have h2 := hb.2.1
  unfold W__law_bent_R6
  refine seq_cat (S := Pt) (n := 5) rfl (.cons (ev_parts e5 ⟨fun K k => ?_⟩ (e7 hL) (e8 hO) (e9 hS)) (.cons (ev_parts e5 ⟨fun K k => ?_⟩ (e7 hL) (e8 hO) (e9 hS)) (.cons (ev_parts (.cst .non) e6 (e7 hL) (e8 hO) (e9 hS)) (.cons (ev_parts e5 ⟨fun K k => ?_⟩ (e7 hL) (e8 hO) (e9 hS)) (.cons (.var rfl hpa) .nil))))) (by omega) fun ds h1 h2 => k _ (hb.app h1 h2)
  · simp
    exact k _ (.int _)
  · simp
    exact k _ (.int _)
  · simp
    refine ⟨?_, k _ (.str _)⟩
    exact Nat.lt_of_le_of_lt (Nat.log2_le_self _) (by omega)
theorem psh_put {S : List (Option Int)} (hS : S.length ≤ 50) {i j : Int} (hi : 0 ≤ i) (hj : j = i + 1) {d : D} (hd : Pst d) : Psh (.tup (cutD (S.map stD) none (some i) ++ [d] ++ cutD (S.map stD) (some j) none)) := by
  subst hj
  rw [cut_take' hi, cut_drop' (by omega)]
  refine .tup _ (fun e he => ?_) (by simp; rw [show (i + 1).toNat = i.toNat + 1 by omega]; omega)
  have hm : ∀ e ∈ S.map stD, Pst e := fun e he => by obtain ⟨o, _, rfl⟩ := List.mem_map.1 he; exact pst_st o
  rcases List.mem_append.1 he with he | he
  · rcases List.mem_append.1 he with he | he
    · exact hm e (List.mem_of_mem_take he)
    · rw [List.mem_singleton.1 he]; exact hd
  · exact hm e (List.mem_of_mem_drop he)
theorem app_ev {ρ : Vn} {e : WE} {i : Nat} {P : D → Prop} {D' : EV} {l : List D} (hi : ρ.getD i .no = .own l) (h : Ev e ρ P) (hl : l.length < sizeLine) (k : ∀ d, P d → D'.nx (ρ.set i (.own (l ++ [d])))) : wDrop (wApp i e) D' ρ := by
  show cOwn (ρ.getD i .no) _
  rw [hi]
  refine h.h _ fun d hd => ?_
  show cOwn (ρ.getD i .no) _
  rw [hi]
  exact ⟨hl, k d hd⟩
theorem put_ev {d : D} {at' : Int} (hS : S.length ≤ 50) (ha : 0 ≤ at') (hd : Pst d) : Ev (wOp gAdd (wOf (wOp gAdd (wOf (wSl3 (wSl 9) wPN (wPS (wVar 14)))) (wOf (wTup (wCons (wOf (wVar 15)) wNil))))) (wOf (wSl3 (wSl 9) (wPS (wOp gAdd (wSl 14) (wOf (wC (.int 1))))) wPN))) (bSt s rows H pa x y L O S v ho st c13 (.val (.int at')) (.val d)) Psh := ⟨fun K k => by
  have z1 : (1 : Nat) ≤ sizeLine := le_sz (by omega)
  have := k _ (psh_put hS ha rfl hd)
  have l1 : (cutD (S.map stD) none (some at')).length ≤ 50 := by rw [cut_take' ha]; simp; omega
  have l2 : (cutD (S.map stD) (some (at' + 1)) none).length ≤ 50 := by rw [cut_drop' (by omega)]; simp; omega
  simp [z1] at this ⊢
  exact ⟨le_sz (by omega), le_sz (by omega), this⟩⟩
theorem bent_loop {D' : EV} {at' : Int} (hL : L.length ≤ 50) (hO : O.length ≤ 50) (hS : S.length ≤ 50) (ha : 0 ≤ at') : ∀ (l : List D) {ts : List D} {n : Nat} {c15 : Cell}, (∀ d ∈ l, Pst d) → Bn ts n → n + l.length ≤ 900 →
    (∀ ts d15, Bn ts (n + l.length) → D'.nx (bSt s rows H pa x y L O S v ho st (.own ts) (.val (.int at')) d15)) →
    forV (gV 15) W__law_bent_L1 l D' (bSt s rows H pa x y L O S v ho st (.own ts) (.val (.int at')) c15)
  | [], ts, n, c15, _, hb, _, q => q _ _ hb
  | d :: l, ts, n, c15, hd, hb, hn, q => by
    rw [for_cons]
    have nx : ∀ ts, Bn ts (n + 1) → forV (gV 15) W__law_bent_L1 l D' (bSt s rows H pa x y L O S v ho st (.own ts) (.val (.int at')) (.val d)) := fun ts h => bent_loop hL hO hS ha l (fun d hd' => hd d (List.mem_cons_of_mem _ hd')) h (by simp at hn; omega) fun ts d15 h => q ts d15 (by simp; rw [show n + (l.length + 1) = n + 1 + l.length by omega]; exact h)
    generalize forV (gV 15) W__law_bent_L1 l D' = F at *
    clear q
    have hp := hb.2.1
    have l1 : ts.length < sizeLine := lt_sz (by simp at hn; omega)
    exact app_ev (e := wTup (wCons (wOf (wVar 5)) (wCons (wOf (wVar 6)) (wCons (wOf (wVar 7)) (wCons (wOf (wVar 8)) (wCons (wOf (wOp gAdd (wOf (wOp gAdd (wOf (wSl3 (wSl 9) wPN (wPS (wVar 14)))) (wOf (wTup (wCons (wOf (wVar 15)) wNil))))) (wOf (wSl3 (wSl 9) (wPS (wOp gAdd (wSl 14) (wOf (wC (.int 1))))) wPN)))) wNil)))))) (ρ := bSt s rows H pa x y L O S v ho st (.own ts) (.val (.int at')) (.val d)) (i := 13) rfl
      (ev_parts e5 e6 (e7 hL) (e8 hO) (put_ev hS ha (hd d (List.mem_cons_self ..)))) l1 fun e he => nx _ (hb.app (m := 1) rfl (by simpa using he))
end
end K40

namespace K40
open PySem PySem.Spec PyProof.Rows L2 Hl Vl
section
variable {s : Int} {rows : List (List Int)} {H : List Int} {pa : D} {x y v ho st : Int} {L O : List Int} {S : List (Option Int)} {c13 c14 c15 : Cell}
theorem bent_R2 {D' : EV} (hL : L.length ≤ 50) (hO : O.length ≤ 50) (hS : S.length ≤ 50)
   (k : ∀ ts : List D, Bn ts 4 → W__law_bent_R3 D' (bSt s rows H pa x y L O S v ho st (.own ts) c14 c15)) : W__law_bent_R2 D' (bSt s rows H pa x y L O S v ho st c13 c14 c15) := by
  unfold W__law_bent_R2
  refine seq_lst (S := Pt) (n := 4) (.cons (ev_parts e10 e6 (e7 hL) (e8 hO) (e9 hS)) (.cons (ev_parts e5 e10 (e7 hL) (e8 hO) (e9 hS)) (.cons (ev_parts e5 e5 (e7 hL) (e7 hL) (e9 hS)) (.cons (ev_parts e6 e5 (e8 hO) (e7 hL) (e9 hS)) .nil)))) (by omega) fun ds h1 h2 => k _ ⟨by omega, by omega, h2⟩
end
end K40

namespace K40
open PySem PySem.Spec PyProof.Rows L2 Hl Vl
section
variable {s : Int} {rows : List (List Int)} {H : List Int} {pa : D} {x y v ho st : Int} {L O : List Int} {S : List (Option Int)} {c13 c14 c15 : Cell}
theorem dat_st {S : List (Option Int)} : D.dat dmax (.tup (S.map stD)) = true := by
  show (S.map stD).all (D.dat 7) = true
  rw [List.all_eq_true]
  intro d hd
  obtain ⟨o, _, rfl⟩ := List.mem_map.1 hd
  cases o <;> rfl
theorem dat_nil : D.dat dmax (.tup []) = true := dat_st (S := [])
theorem eqv_nn : (D.tup []).eqv (.tup []) = true := rfl
theorem eqv_cn {d : D} {l : List D} : (D.tup (d :: l)).eqv (.tup []) = false := rfl
theorem for_lst {ρ : Vn} {w : WE} {P : List D → Prop} {gg : WG} {b : WS} {D' : EV} (h : Ev w ρ (fun d => ∃ l, d = .lst l ∧ P l)) (k : ∀ l, P l → forV gg b l D' ρ) : wFor (wIt (wOf w)) gg b D' ρ := h.h _ fun d ⟨l, e, hl⟩ => by
  subst e
  exact k l hl
theorem bent_R7 {h : Nat} (kp : Kp s h rows) (hH : Hs h H) {D' : EV} {ts : List D} {n : Nat} (hb : Bn ts n) (hn : n ≤ 800) (hL : L.length ≤ 50) (hO : O.length ≤ 50) (hS : S.length = H.length) {x y v : Nat} (hx : x < rows.length) (hy : y < rows.length) (hv : v < rows.length)
   (q : ∀ d, Pt d → D'.rt d) : W__law_bent_R7 D' (bSt s rows H pa x y L O S v ho st (.own ts) c14 c15) := by
  have s24 := hH.sm
  have hS5 : S.length ≤ 50 := by omega
  have hp := hb.2.1
  have fin : ∀ {ts n c14 c15}, Bn ts n → n ≤ 1000 → W__law_bent_R8 D' (bSt s rows H pa x y L O S v ho st (.own ts) c14 c15) := fun hb hn => bent_R8 hb.1 (by have := hb.2.1; omega) hb.2.2 q
  unfold W__law_bent_R7
  cases S with
  | nil =>
    refine seq_ifn (fun K k => ?_) (fin hb (by omega))
    simp
    rw [dat_nil, eqv_nn]
    exact ⟨rfl, k⟩
  | cons o S =>
    refine seq_if (b := true) (fun K k => ?_) (fun _ => ?_) (fun z => by cases z)
    · have := dat_st (S := o :: S)
      rw [List.map_cons] at this
      simp
      rw [dat_nil, this, eqv_cn]
      exact ⟨⟨rfl, rfl⟩, k⟩
    generalize hT : o :: S = T at *
    have hT0 : 0 < T.length := by rw [← hT]; simp
    refine seq_ev (S := fun d => ∃ a : Int, d = .int a ∧ 0 ≤ a ∧ a < T.length) ⟨fun K k => ?_⟩ fun d hd => ?_
    · simp
      refine ⟨by omega, by omega, fun r r0 r1 => k _ ⟨r, rfl, r0, r1⟩⟩
    obtain ⟨a, rfl, a0, a1⟩ := hd
    show wSeq _ _ _ (bSt s rows H pa x y L O T v ho st (.own ts) (.val (.int a)) c15)
    have ea := at_row a0 (by omega : a < H.length)
    have rg := hH.rg (atZ H a) (by
      rw [atZ, List.getD_eq_getElem?_getD, List.getElem?_eq_getElem (by omega : a.toNat < H.length)]
      exact List.getElem_mem _)
    have ir : ∀ {i : Nat} {m : Nat}, i < rows.length → m = i → ∃ z : Int, ∃ r, atI (rows.map tI) (m : Int) = some (tI r) ∧ atI (r.map D.int) (atZ H a) = some (.int z) := fun {i m} hi e => by
      subst e
      exact ⟨_, _, at_rows hi, at_row rg.1 (by have := kp.lenD hi; omega)⟩
    obtain ⟨z1, r1, ex1, ex2⟩ := ir hx rfl
    obtain ⟨z2, r2, ey1, ey2⟩ := ir hy rfl
    obtain ⟨z3, r3, ev1, ev2⟩ := ir hv rfl
    refine for_lst (P := fun l => l.length = 8 ∧ ∀ d ∈ l, Pst d) (Ev.lst (S := Pst) (n := 8) ?_ (by omega) fun l h1 h2 => ⟨l, rfl, h1, h2⟩) fun l hl => ?_
    · refine .cons (.var rfl (.int _)) (.cons (.cst .non) (.cons (.var rfl (.int _)) (.cons (.cst (.str _)) (.cons (.cst (.bl _)) (.cons ⟨fun K k => ?_⟩ (.cons ⟨fun K k => ?_⟩ (.cons ⟨fun K k => ?_⟩ .nil)))))))
      · simp [ea, ex1, ex2]
        exact k _ (.int _)
      · simp [ea, ey1, ey2]
        exact k _ (.int _)
      · simp [ea, ev1, ev2]
        exact k _ (.int _)
    · have h8 := hl.1
      refine bent_loop hL hO hS5 a0 l hl.2 hb (by omega) fun ts d15 hb' => ?_
      have hp' := hb'.2.1
      dsimp only
      refine set_cat (D' := { D' with nx := W__law_bent_R8 D' }) (ρ := bSt s rows H pa x y L O T v ho st (.own ts) (.val (.int a)) d15) (i := 13) (L := ts) (S := Pt) (n := 2) rfl (.cons (ev_parts e5 e6 (e7 hL) (e8 hO) ⟨fun K k => ?_⟩) (.cons (ev_parts e5 e6 (e7 hL) (e8 hO) ⟨fun K k => ?_⟩) .nil)) (by omega) fun ds h1 h2 => fin (n := n + l.length + 2) (c14 := .val (.int a)) (c15 := d15) (hb'.app h1 h2) (by omega)
      · simp
        refine k _ ?_
        rw [← List.map_tail]
        exact psh_st (by simp; omega)
      · simp
        refine ⟨le_sz (by omega), le_sz (by omega), k _ (.tup _ (fun d hd => ?_) (by simp; omega))⟩
        rcases List.mem_append.1 hd with hd | hd
        · obtain ⟨o, _, rfl⟩ := List.mem_map.1 hd; exact pst_st o
        · rw [List.mem_singleton.1 hd]; exact .int _
end
end K40

namespace K40
open PySem PySem.Spec PyProof.Rows L2 Hl Vl
/-- two runs with something other than it was -/
theorem bent_ok {s : Int} {h : Nat} {rows : List (List Int)} {H : List Int} {L O : List Int} {S : List (Option Int)} (kp : Kp s h rows) (hH : Hs h H) (hL : L.length ≤ 50) (hO : O.length ≤ 50) (hS : S.length = H.length) {x y : Nat} (hx : x < rows.length) (hy : y < rows.length)
    {Q : D → Prop} (q : ∀ a b c e g, Pst a → Pst b → Plt c → Plt e → Psh g → Q (.tup [a, b, c, e, g])) : W__law_bent [.hnd, .int s, .tup (rows.map tI), tI H, .tup [.int x, .int y, tI L, tI O, .tup (S.map stD)]] Q := by
  have s24 := hH.sm
  have hn := kp.n1
  have hn2 := kp.n128
  have q' : ∀ d, Pt d → Q d := fun d hd => by obtain ⟨a, b, c, e, g, rfl, h1, h2, h3, h4, h5⟩ := hd; exact q a b c e g h1 h2 h3 h4 h5
  have hpa : Pt (.tup [.int x, .int y, tI L, tI O, .tup (S.map stD)]) := pt_mk (.int _) (.int _) (.tup L (by omega)) (.tup O (by omega)) (psh_st (by omega))
  have fin : ∀ {v : Nat} {ho st : Int}, v < rows.length → W__law_bent_R2 { nx := fun _ => Q .non, rt := Q } (bSt s rows H (.tup [.int x, .int y, tI L, tI O, .tup (S.map stD)]) x y L O S v ho st .no .no .no) := fun hv =>
    bent_R2 hL hO (by omega) fun ts hb => bent_R3 hb (by omega) hL hO (by omega) fun ts hb => bent_R4 hb (by omega) hL hO (by omega) fun ts hb => bent_R5 hb (by omega) hL hO (by omega) fun ts hb =>
    bent_R6 hb (by omega) hL hO (by omega) hpa (by omega) (by omega) fun ts hb => bent_R7 kp hH hb (by omega) hL hO hS hx hy hv q'
  rw [W__law_bent_eq]
  unfold W__law_bent_R1
  generalize W__law_bent_R2 = R2 at *
  obtain ⟨a, t, er, ha⟩ := kp.hd
  have e0 : atI (rows.map tI) 0 = some (tI a) := by rw [er]; simp
  have h1 := kp.h1
  have h12 := kp.h12
  have s2 := kp.s2
  have s12 := kp.s12
  simp [e0]
  refine ⟨by omega, by omega, fun r r0 r1 => ⟨by omega, by omega, fun r' r0' r1' => ⟨by omega, by omega, fun r'' _ _ => ?_⟩⟩⟩
  obtain ⟨v, rfl⟩ : ∃ v : Nat, r = v := ⟨r.toNat, by omega⟩
  exact fin (by omega)
end K40

namespace K40
open PySem PySem.Spec PyProof.Rows L2 Hl Vl
def W__law_right_R11 : WS := (wSeq (wSet (wCall W__law_pick [] (wCons (wSl 0) (wCons (wOf (wFz (wLst (wCons (wOf (wC .non)) (wCons (wOf (wVar 13)) (wCons (wOf (wTup (wCons (wOf (wVar 10)) wNil))) (wCons (wOf (wC (.str "runs"))) (wCons (wOf (wC (.int 0))) (wCons (wOf (wMake "FooledRuns" W_FooledRuns_init [] (wCons (wOf (wC .non)) (wCons (wOf (wC .non)) (wCons (wOf (wC .non)) (wCons (wOf (wC .non)) (wCons (wOf (wC .non)) wNil))))))) wNil))))))))) wNil))) (gV 12)) (wRet (wOp gIsB (wOf (wCallK W_are_fooled_runs [4, 3, 2, 1, 0] (wCons (wSl 12) (wCons (wSl 7) (wCons (wSl 9) (wCons (wSl 5) (wCons (wSl 4) wNil))))))) (wOf (wC (.bl false))))))
def W__law_right_R10 : WS := (wSeq (wFor (wRg1 (wCons (wOf (wC (.int 8))) wNil)) (gV 15) W__law_right_L2) W__law_right_R11)
def W__law_right_R9 : WS := (wSeq (wSet (wCall W_readings [] (wCons (wSl 4) (wCons (wSl 5) (wCons (wOf (wFld "shown" (wVar 10))) (wCons (wSl 9) (wCons (wSl 7) wNil)))))) (gV 14)) (wSeq (wIf (wOr (wNot (wTru (wOf (wIsiT ["FooledRuns", "Keeping"] [.tuple] (wSl 14))))) (wOr (wTst (wOp (gInP true) (wOf (wFld "one" (wVar 10))) (wSl 14))) (wOr (wTst (wOp (gInP true) (wOf (wFld "other" (wVar 10))) (wSl 14))) (wTst (wOp gNotN (wOf (wCall W_only_reading [] (wCons (wSl 4) (wCons (wSl 5) (wCons (wOf (wFld "shown" (wVar 10))) (wCons (wSl 9) (wCons (wSl 7) wNil))))))) (wOf (wC .non))))))) (wRet (wC (.bl false))) wNext) W__law_right_R10))
def W__law_right_R8 : WS := (wSeq (wIf (wOr (wNot (wTru (wOf (wCall W__law_is [] (wCons (wSl 2) (wCons (wSl 3) (wCons (wSl 5) (wCons (wSl 9) (wCons (wSl 7) (wCons (wSl 13) wNil)))))))))) (wTst (wOp gNotB (wOf (wCall W_are_fooled_runs [] (wCons (wSl 4) (wCons (wSl 5) (wCons (wSl 9) (wCons (wSl 7) (wCons (wSl 10) wNil))))))) (wOf (wC (.bl true)))))) (wRet (wC (.bl false))) wNext) W__law_right_R9)
def W__law_right_R7 : WS := (wSeq (wIf (wNot (wTru (wOf (wIsiO ["FooledRuns", "Keeping"] "FooledRuns" (wSl 10))))) (wRet (wC (.bl false))) wNext) (wSeq (wSet (wTup (wCons (wOf (wFld "one" (wVar 10))) (wCons (wOf (wFld "other" (wVar 10))) (wCons (wOf (wFld "liars" (wVar 10))) (wCons (wOf (wFld "others" (wVar 10))) (wCons (wOf (wFld "shown" (wVar 10))) wNil)))))) (gV 13)) W__law_right_R8))
def W__law_right_R6 : WS := (wSeq (wIf (wNot (wTru (wSl 11))) (wSeq (wSet (wCall W__law_pick [] (wCons (wSl 0) (wCons (wOf (wFz (wLst (wCons (wOf (wC .non)) (wCons (wOf (wC (.int 0))) (wCons (wOf (wTup wNil)) (wCons (wOf (wVar 4)) (wCons (wOf (wMake "FooledRuns" W_FooledRuns_init [] (wCons (wOf (wC (.int 0))) (wCons (wOf (wC (.int 0))) (wCons (wOf (wTup wNil)) (wCons (wOf (wTup wNil)) (wCons (wOf (wCB gTuple (wCons (wOf (wFz (wLc (wIt (wSl 5)) (gV 19) wYes (wOp gIx (wOf (wOp gIx (wSl 3) (wOf (wC (.int 0))))) (wSl 19)) [19]))) wNil))) wNil))))))) wNil)))))))) wNil))) (gV 12)) (wRet (wAndV (wOp gIsN (wSl 10) (wOf (wC .non))) (wOp gIsB (wOf (wCall W_are_fooled_runs [] (wCons (wSl 4) (wCons (wSl 5) (wCons (wSl 9) (wCons (wSl 7) (wCons (wSl 12) wNil))))))) (wOf (wC (.bl false))))))) wNext) W__law_right_R7)
def W__law_right_R5 : WS := (wSeq (wIf (wNot (wTru (wOf (wCall W__law_like [] (wCons (wOf (wCall W_is_readable [] (wCons (wSl 4) (wCons (wSl 5) (wCons (wSl 9) (wCons (wSl 7) wNil)))))) (wCons (wOf (wUn gNot (wVar 11))) wNil)))))) (wRet (wC (.bl false))) wNext) W__law_right_R6)
def W__law_right_R4 : WS := (wSeq (wPar2 10 11 (wQc (wQv (wCall W_fooled_runs [] (wCons (wSl 4) (wCons (wSl 5) (wCons (wSl 9) (wCons (wSl 7) wNil)))))) (wQc (wQv (wAndV (wOp gNotN (wSl 6) (wOf (wC .non))) (wOp gLe (wSl 6) (wOf (wIfE (wTru (wSl 7)) (wVar 9) (wOp gMul (wOf (wC (.int 2))) (wSl 9))))))) wQn))) W__law_right_R5)
def W__law_right_R3 : WS := (wSeq (wSet (wCB gMax (wCons (wOf (wC (.int 0))) (wCons (wOf (wCall W__law_pick [] (wCons (wSl 0) (wCons (wOf (wFz (wLst (wCons (wOf (wVar 8)) (wCons (wOf (wOp gSub (wSl 8) (wOf (wC (.int 1))))) (wCons (wOf (wOp gDiv (wOf (wOp gAdd (wSl 8) (wOf (wC (.int 1))))) (wOf (wC (.int 2))))) (wCons (wOf (wOp gDiv (wSl 8) (wOf (wC (.int 2))))) (wCons (wOf (wOp gDiv (wOf (wOp gSub (wSl 8) (wOf (wC (.int 1))))) (wOf (wC (.int 2))))) (wCons (wOf (wCall W__law_draw [] (wCons (wSl 0) (wCons (wOf (wC (.int 5))) wNil)))) wNil))))))))) wNil)))) wNil))) (gV 9)) W__law_right_R4)
def W__law_right_R2 : WS := (wSeq (wPar2 6 7 (wQc (wQv (wCall W__law_least [] (wCons (wSl 3) (wCons (wSl 5) wNil)))) (wQc (wQv (wOp gEq (wOf (wCall W__law_draw [] (wCons (wSl 0) (wCons (wOf (wC (.int 2))) wNil)))) (wOf (wC (.int 0))))) wQn))) (wSeq (wSet (wIfE (wTst (wOp gNotN (wSl 6) (wOf (wC .non)))) (wVar 6) (wC (.int 1))) (gV 8)) W__law_right_R3))
def W__law_right_R1 : WS := (wSeq (wPar2 4 5 (wQc (wQv (wMake "Keeping" W_Keeping_init [] (wCons (wOf (wVar 2)) (wCons (wOf (wVar 3)) wNil)))) (wQc (wQv (wCB gTuple (wCons (wOf (wFz (wLc (wRg1 (wCons (wSl 1) wNil)) (gV 19) (wTst (wOp gGt (wOf (wCall W__law_draw [] (wCons (wSl 0) (wCons (wOf (wC (.int 5))) wNil)))) (wOf (wC (.int 0))))) (wVar 19) [19]))) wNil))) wQn))) W__law_right_R2)
theorem W__law_right_eq : W__law_right = wDef 2 20 (wSeq (wSet (wCall W__law_rows [] (wCons (wSl 0) (wCons (wSl 1) wNil))) (gTupV 2 (gConsV (gV 2) (gConsV (gV 3) gNilV)))) W__law_right_R1) := rfl
theorem like_bl {n : Nat} {a b : Bool} {Q : D → Prop} (h : Q (.bl (decide (a = b)))) : W__law_like_at (n + 1) [.bl a, .bl b] Q := by
  cases a <;> cases b <;> simp [W__law_like_at, W__law_like_of] <;> exact h
theorem sz2' : (2 : Nat) ≤ sizeLine := by decide
theorem sz6 : (6 : Nat) ≤ sizeLine := by decide
abbrev rSt (s : Int) (h : Nat) (rows : List (List Int)) (H : List Int) (c6 : Cell) (sg : Bool) (c8 : Cell) (f : Nat) (c10 c11 c12 c13 c14 c15 c16 c17 c18 : Cell) : Vn :=
  [.val .hnd, .val (.int h), .val (.int s), .val (.tup (rows.map tI)), .val (keepO s rows), .val (tI H), c6, .val (.bl sg), c8, .val (.int f), c10, c11, c12, c13, c14, c15, c16, c17, c18, .no]
section
variable {s : Int} {h : Nat} {rows : List (List Int)} {H : List Int} {sg : Bool} {f : Nat} {c6 c8 c10 c11 c12 c13 c14 c15 c16 c17 c18 : Cell}
theorem right_L1 (k : Kp s h rows) (hH : Hs h H) {D' : EV} {a b c e g : D} (p1 : Pst a) (p2 : Pst b) (p3 : Plt c) (p4 : Plt e) (p5 : Psh g) {f' : Nat}
    (q : ∀ d18, D'.nx (rSt s h rows H c6 sg c8 f c10 c11 c12 c13 c14 c15 (.val (.tup [a, b, c, e, g])) (.val (.int f')) d18)) :
    W__law_right_L1 D' (rSt s h rows H c6 sg c8 f c10 c11 c12 c13 c14 c15 (.val (.tup [a, b, c, e, g])) (.val (.int f')) c18) := by
  simp [W__law_right_L1]
  refine fooled_make ?_
  refine are_fooled_ok k hH p1 p2 p3 p4 p5 ?_
  refine law_is_ok k hH p1 p2 p3 p4 p5 ?_
  refine like_bl ?_
  simp
  exact q _
theorem right_L2 (k : Kp s h rows) (hH : Hs h H) {D' : EV} {x y : Nat} {L O : List Int} {S : List (Option Int)} (hL : L.length ≤ 50) (hO : O.length ≤ 50) (hS : S.length = H.length) (hx : x < rows.length) (hy : y < rows.length) (hf : f ≤ 1000)
    (q : ∀ d16 d17 d18, D'.nx (rSt s h rows H c6 sg c8 f c10 c11 c12 (.val (.tup [.int x, .int y, tI L, tI O, .tup (S.map stD)])) c14 c15 d16 d17 d18)) :
    W__law_right_L2 D' (rSt s h rows H c6 sg c8 f c10 c11 c12 (.val (.tup [.int x, .int y, tI L, tI O, .tup (S.map stD)])) c14 c15 c16 c17 c18) := by
  have st : ∀ {a b c e g : D} (p1 : Pst a) (p2 : Pst b) (p3 : Plt c) (p4 : Plt e) (p5 : Psh g) {f' : Nat} {E : EV} {c18 : Cell}
    (q : ∀ d18, E.nx (rSt s h rows H c6 sg c8 f c10 c11 c12 (.val (.tup [.int x, .int y, tI L, tI O, .tup (S.map stD)])) c14 c15 (.val (.tup [a, b, c, e, g])) (.val (.int f')) d18)),
    W__law_right_L1 E (rSt s h rows H c6 sg c8 f c10 c11 c12 (.val (.tup [.int x, .int y, tI L, tI O, .tup (S.map stD)])) c14 c15 (.val (.tup [a, b, c, e, g])) (.val (.int f')) c18) := fun {_ _ _ _ _} p1 p2 p3 p4 p5 {_ _ _} q => right_L1 k hH p1 p2 p3 p4 p5 q
  unfold W__law_right_L2
  generalize W__law_right_L1 = B at *
  simp [-forV]
  refine bent_ok k hH hL hO hS hx hy fun a b c e g p1 p2 p3 p4 p5 => ?_
  refine ⟨sz2', ?_⟩
  rw [for_cons]
  simp only [gV]
  refine st p1 p2 p3 p4 p5 fun d18 => ?_
  show forV _ _ _ _ _
  rw [for_cons]
  simp only [gV]
  have e : max (0 : Int) ((f : Int) - 1) = ((f - 1 : Nat) : Int) := by omega
  rw [e]
  refine st p1 p2 p3 p4 p5 fun d18 => ?_
  show forV _ _ _ _ _
  rw [for_nil]
  exact q _ _ _
theorem right_R11 (k : Kp s h rows) (hH : Hs h H) {Q : D → Prop} {fs : List (Str × D)} {l : List D} (q : Q (.bl true)) :
    W__law_right_R11 { nx := fun _ => Q .non, rt := Q } (rSt s h rows H c6 sg c8 f (.val (.obj "FooledRuns" fs)) c11 c12 (.val (.tup l)) c14 c15 c16 c17 c18) := by
  have er : reo [4, 3, 2, 1, 0] [AI.sl 12, AI.sl 7, AI.sl 9, AI.sl 5, AI.sl 4] = [AI.sl 4, AI.sl 5, AI.sl 9, AI.sl 7, AI.sl 12] := rfl
  unfold W__law_right_R11
  simp [er]
  refine ⟨le_sz (by omega), fooled_make ⟨sz6, ?_⟩⟩
  have q' : Q (.bl (decide (false = false))) := q
  have h1 : ∀ {R : D → Prop}, R (.bl false) → W_are_fooled_runs [keepO s rows, tI H, .int f, .bl sg, .obj (Str.ofString "FooledRuns") (foolFs .non .non .non .non .non)] R := fun q =>
    are_fooled_ok k hH .non .non .non .non .non (by simpa [judge, shownB] using q)
  refine pick_D (l := [.non, .tup l, .tup [.obj (Str.ofString "FooledRuns") fs], .str (Str.ofString "runs"), .int 0, .obj (Str.ofString "FooledRuns") (foolFs .non .non .non .non .non)]) (by simp) (by simp) fun x hx => ?_
  simp only [List.mem_cons, List.not_mem_nil, or_false] at hx
  have ho : x.kn ["FooledRuns", "Keeping"] = true → x.isCl "FooledRuns" = false → W_are_fooled_runs [keepO s rows, tI H, .int f, .bl sg, x] (fun d => match d, D.bl false, fun z => Q z with
      | D.bl a, D.bl b, k => k (D.bl (decide (a = b)))
      | x, x_1, x_2 => False) := fun h1 h2 => are_other h1 h2 q'
  rcases hx with rfl | rfl | rfl | rfl | rfl | rfl
  · exact ho rfl rfl
  · exact ho rfl rfl
  · exact ho rfl rfl
  · exact ho rfl rfl
  · exact ho rfl rfl
  · exact h1 q'
end
end K40

namespace K40
open PySem PySem.Spec PyProof.Rows L2 Hl Vl
/-- the five parts of a told run -/
abbrev prt (x y : Nat) (L O : List Int) (S : List (Option Int)) : List D := [.int x, .int y, tI L, tI O, .tup (S.map stD)]
section
variable {s : Int} {h : Nat} {rows : List (List Int)} {H : List Int} {sg : Bool} {f : Nat} {c6 c8 c10 c11 c12 c13 c14 c15 c16 c17 c18 : Cell}
theorem right_loop (k : Kp s h rows) (hH : Hs h H) {D' : EV} {x y : Nat} {L O : List Int} {S : List (Option Int)} (hL : L.length ≤ 50) (hO : O.length ≤ 50) (hS : S.length = H.length) (hx : x < rows.length) (hy : y < rows.length) (hf : f ≤ 1000) : ∀ (n : Nat) {lo : Int} {c15 c16 c17 c18 : Cell},
    (∀ d15 d16 d17 d18, D'.nx (rSt s h rows H c6 sg c8 f c10 c11 c12 (.val (.tup (prt x y L O S))) c14 d15 d16 d17 d18)) →
    forV (gV 15) W__law_right_L2 (rgD lo n) D' (rSt s h rows H c6 sg c8 f c10 c11 c12 (.val (.tup (prt x y L O S))) c14 c15 c16 c17 c18)
  | 0, lo, c15, c16, c17, c18, q => q _ _ _ _
  | n + 1, lo, c15, c16, c17, c18, q => by
    rw [rgD_succ, for_cons]
    simp only [gV]
    refine right_L2 k hH hL hO hS hx hy hf fun d16 d17 d18 => ?_
    exact right_loop k hH hL hO hS hx hy hf n q
theorem right_R10 (k : Kp s h rows) (hH : Hs h H) {Q : D → Prop} {fs : List (Str × D)} {x y : Nat} {L O : List Int} {S : List (Option Int)} (hL : L.length ≤ 50) (hO : O.length ≤ 50) (hS : S.length = H.length) (hx : x < rows.length) (hy : y < rows.length) (hf : f ≤ 1000) (q : Q (.bl true)) :
    W__law_right_R10 { nx := fun _ => Q .non, rt := Q } (rSt s h rows H c6 sg c8 f (.val (.obj "FooledRuns" fs)) c11 c12 (.val (.tup (prt x y L O S))) c14 c15 c16 c17 c18) := by
  unfold W__law_right_R10
  have fin : ∀ {d14 d15 d16 d17 d18}, W__law_right_R11 { nx := fun _ => Q .non, rt := Q } (rSt s h rows H c6 sg c8 f (.val (.obj "FooledRuns" fs)) c11 c12 (.val (.tup (prt x y L O S))) d14 d15 d16 d17 d18) := right_R11 k hH q
  generalize W__law_right_R11 = R at *
  simp [-forV]
  exact right_loop k hH hL hO hS hx hy hf 8 fun _ _ _ _ => fin
theorem tst_sl {ρ : Vn} {e : WE} {g : G2} {i : Nat} {v w : D} {b : Bool} (he : Ev e ρ (· = v)) (hi : ρ.getD i .no = .val w) (hm : ∀ {K : D → Prop}, K (.bl b) → g v w K) : Tv (wTst (wOp g (wOf e) (wSl i))) ρ b := fun K k => by
  refine he.h _ fun d hd => ?_
  subst hd
  simp only [wSl, hi, cRd, rs1]
  refine hm (K := fun d => cBl d fun b => K b ρ) ?_
  exact k
theorem fl1 {a b c e g : D} : (foolFs a b c e g).lookup (Str.ofString "one") = some a := rfl
abbrev fO (x y : Nat) (L O : List Int) (S : List (Option Int)) : D := .obj "FooledRuns" (foolFs (.int x) (.int y) (tI L) (tI O) (.tup (S.map stD)))
theorem right_R9 (k : Kp s h rows) (hH : Hs h H) {Q : D → Prop} {x y : Nat} {L O : List Int} {S : List (Option Int)} (hL : L.length ≤ 50) (hO : O.length ≤ 50) (hS : S.length = H.length) (hx : x < rows.length) (hy : y < rows.length) (hf : f ≤ 1000) (q : Q (.bl true))
    (r1 : x ∈ rdL rows H S f sg) (r2 : y ∈ rdL rows H S f sg) (r3 : (rdL rows H S f sg).length ≠ 1) :
    W__law_right_R9 { nx := fun _ => Q .non, rt := Q } (rSt s h rows H c6 sg c8 f (.val (fO x y L O S)) c11 c12 (.val (.tup (prt x y L O S))) c14 c15 c16 c17 c18) := by
  unfold W__law_right_R9
  have fin : ∀ {d14}, W__law_right_R10 { nx := fun _ => Q .non, rt := Q } (rSt s h rows H c6 sg c8 f (.val (fO x y L O S)) c11 c12 (.val (.tup (prt x y L O S))) d14 c15 c16 c17 c18) := right_R10 k hH hL hO hS hx hy hf q
  generalize W__law_right_R10 = R at *
  have hm : ∀ {z : Nat}, z ∈ rdL rows H S f sg → ∀ {K : D → Prop}, K (.bl false) → gInP true (.int z) (.tup ((rdL rows H S f sg).map fun (i : Nat) => D.int i)) K := fun {z} hz {K} k => by
    have : ((rdL rows H S f sg).map fun (i : Nat) => D.int i) = ((rdL rows H S f sg).map fun (i : Nat) => (i : Int)).map D.int := by rw [List.map_map]; rfl
    rw [this]
    have hz' : (z : Int) ∈ (rdL rows H S f sg).map fun (i : Nat) => (i : Int) := List.mem_map.2 ⟨z, hz, rfl⟩
    generalize (rdL rows H S f sg).map (fun (i : Nat) => (i : Int)) = l at *
    simp [hz']
    exact k
  refine seq_ev (S := (· = .tup ((rdL rows H S f sg).map fun (i : Nat) => D.int i))) ⟨fun K kk => ?_⟩ fun d hd => ?_
  · simp
    exact readings_ok k hH (kk _ rfl)
  subst hd
  show wSeq _ _ _ (rSt s h rows H c6 sg c8 f (.val (fO x y L O S)) c11 c12 (.val (.tup (prt x y L O S))) (.val (.tup ((rdL rows H S f sg).map fun (i : Nat) => D.int i))) c15 c16 c17 c18)
  refine seq_ifn (fun K kk => Tv.or_f (fun K kk => ?_) (Tv.or_f (fun K kk => ?_) (Tv.or_f (fun K kk => ?_) (fun K kk => ?_))) K kk) fin
  · simp
    exact kk
  · exact tst_sl ⟨fun K k => by simp; exact k _ rfl⟩ rfl (hm r1) K kk
  · exact tst_sl ⟨fun K k => by simp; exact k _ rfl⟩ rfl (hm r2) K kk
  · refine only_reading_ok k hH r3 ?_
    exact ⟨fun _ => rfl, kk⟩
theorem right_R8 (k : Kp s h rows) (hH : Hs h H) {Q : D → Prop} {x y : Nat} {L O : List Int} {S : List (Option Int)} (hL : L.length ≤ 50) (hO : O.length ≤ 50) (hS : S.length = H.length) (hx : x < rows.length) (hy : y < rows.length) (hf : f ≤ 1000) (q : Q (.bl true))
    (r1 : x ∈ rdL rows H S f sg) (r2 : y ∈ rdL rows H S f sg) (r3 : (rdL rows H S f sg).length ≠ 1) (hj : judge s h rows H f sg (.int x) (.int y) (tI L) (tI O) (.tup (S.map stD)) = true) :
    W__law_right_R8 { nx := fun _ => Q .non, rt := Q } (rSt s h rows H c6 sg c8 f (.val (fO x y L O S)) c11 c12 (.val (.tup (prt x y L O S))) c14 c15 c16 c17 c18) := by
  unfold W__law_right_R8
  have fin : W__law_right_R9 { nx := fun _ => Q .non, rt := Q } (rSt s h rows H c6 sg c8 f (.val (fO x y L O S)) c11 c12 (.val (.tup (prt x y L O S))) c14 c15 c16 c17 c18) := right_R9 k hH hL hO hS hx hy hf q r1 r2 r3
  have sm := hH.sm
  have p5 : Psh (.tup (S.map stD)) := psh_st (by omega)
  generalize W__law_right_R9 = R at *
  simp
  refine law_is_ok k hH (.int _) (.int _) (.tup L (by omega)) (.tup O (by omega)) p5 ?_
  rw [hj]
  simp
  refine are_fooled_ok k hH (.int _) (.int _) (.tup L (by omega)) (.tup O (by omega)) p5 ?_
  rw [hj]
  simp
  exact fin
theorem right_R7 (k : Kp s h rows) (hH : Hs h H) {Q : D → Prop} {x y : Nat} {L O : List Int} {S : List (Option Int)} (hL : L.length ≤ 50) (hO : O.length ≤ 50) (hS : S.length = H.length) (hx : x < rows.length) (hy : y < rows.length) (hf : f ≤ 1000) (q : Q (.bl true))
    (r1 : x ∈ rdL rows H S f sg) (r2 : y ∈ rdL rows H S f sg) (r3 : (rdL rows H S f sg).length ≠ 1) (hj : judge s h rows H f sg (.int x) (.int y) (tI L) (tI O) (.tup (S.map stD)) = true) :
    W__law_right_R7 { nx := fun _ => Q .non, rt := Q } (rSt s h rows H c6 sg c8 f (.val (fO x y L O S)) c11 c12 c13 c14 c15 c16 c17 c18) := by
  unfold W__law_right_R7
  have fin : W__law_right_R8 { nx := fun _ => Q .non, rt := Q } (rSt s h rows H c6 sg c8 f (.val (fO x y L O S)) c11 c12 (.val (.tup (prt x y L O S))) c14 c15 c16 c17 c18) := right_R8 k hH hL hO hS hx hy hf q r1 r2 r3 hj
  generalize W__law_right_R8 = R at *
  simp
  exact ⟨le_sz (by omega), fin⟩
end
end K40

namespace K40
open PySem PySem.Spec PyProof.Rows L2 Hl Vl
theorem kp1 {fs : List (Str × D)} : (D.obj "Keeping" fs).kn ["FooledRuns", "Keeping"] = true := (by decide +kernel : decide (("Keeping" : Str) ∈ (["FooledRuns", "Keeping"] : List Str)) = true)
theorem kp2 {fs : List (Str × D)} : (D.obj "Keeping" fs).isCl "FooledRuns" = false := (by decide +kernel : decide (("Keeping" : Str) = "FooledRuns") = false)
section
variable {s : Int} {h : Nat} {rows : List (List Int)} {H : List Int} {sg : Bool} {f : Nat} {c6 c8 c10 c11 c12 c13 c14 c15 c16 c17 c18 : Cell}
/-- behind told runs, whole -/
theorem right_told (k : Kp s h rows) (hH : Hs h H) {Q : D → Prop} {x y : Nat} (hxy : x < y) (hy : y < rows.length) (hd : dst rows H x y ≤ need f sg) (hf : f ≤ 1000) (q : Q (.bl true)) :
    W__law_right_R7 { nx := fun _ => Q .non, rt := Q } (rSt s h rows H c6 sg c8 f (.val (foolO rows H f sg x y)) c11 c12 c13 c14 c15 c16 c17 c18) := by
  obtain ⟨_, _, lL, lO, m1, m2⟩ := told_parts k hH hd rfl rfl rfl rfl
  obtain ⟨r1, r2, r3⟩ := two_readings k hH hxy hy hd rfl rfl rfl rfl
  have hj := judge_told k hH hxy hy hd rfl rfl rfl rfl
  have hu : (unl (rowN rows x) (rowN rows y) H).length ≤ 24 := by
    have := hH.sm
    have h2 : (unl (rowN rows x) (rowN rows y) H).length ≤ H.length := by unfold unl; exact List.length_filter_le ..
    omega
  have l1 : (liarsF f sg (unl (rowN rows x) (rowN rows y) H)).length ≤ 50 := by unfold liarsF; split; omega; simp; omega
  have l2 : (othersF f sg (unl (rowN rows x) (rowN rows y) H)).length ≤ 50 := by unfold othersF; split; omega; simp; omega
  exact right_R7 k hH l1 l2 (by simp) (by omega) hy hf q r1 r2 r3 hj
theorem right_R6t {Q : D → Prop} {told : D} (q : W__law_right_R7 { nx := fun _ => Q .non, rt := Q } (rSt s h rows H c6 sg c8 f (.val told) (.val (.bl true)) c12 c13 c14 c15 c16 c17 c18)) :
    W__law_right_R6 { nx := fun _ => Q .non, rt := Q } (rSt s h rows H c6 sg c8 f (.val told) (.val (.bl true)) c12 c13 c14 c15 c16 c17 c18) := by
  unfold W__law_right_R6
  exact seq_ifn (fun K k => by simp; exact k) q
theorem right_R6f (k : Kp s h rows) (hH : Hs h H) {Q : D → Prop} (q : Q (.bl true)) :
    W__law_right_R6 { nx := fun _ => Q .non, rt := Q } (rSt s h rows H c6 sg c8 f (.val .non) (.val (.bl false)) c12 c13 c14 c15 c16 c17 c18) := by
  unfold W__law_right_R6
  refine seq_if (b := true) (fun K k => by simp; exact k) (fun _ => ?_) (fun z => by cases z)
  generalize W__law_right_R7 = R at *
  obtain ⟨a, t, er, ha⟩ := k.hd
  have e0 : atI (rows.map tI) 0 = some (tI a) := by rw [er]; simp
  refine seq_ev (S := fun d => ∀ R : D → Prop, R (.bl false) → W_are_fooled_runs [keepO s rows, tI H, .int f, .bl sg, d] R) ⟨fun K kk => ?_⟩ fun d hd => ?_
  · simp [e0, -lcV]
    refine lc_m D.int (fun x => .int (atZ a x)) H (fun x hx A B k1 => ?_) rfl (le_sz (by have := hH.sm; omega)) ?_
    · have rg := hH.rg x hx
      have ea := at_row rg.1 (by omega : x < a.length)
      simp [e0, ea] at k1 ⊢
      exact k1
    simp
    refine fooled_make ⟨le_sz (by omega), ?_⟩
    have h1 : ∀ {R : D → Prop}, R (.bl false) → W_are_fooled_runs [keepO s rows, tI H, .int f, .bl sg, .obj (Str.ofString "FooledRuns") (foolFs (.int 0) (.int 0) (.tup []) (.tup []) (.tup (H.map fun x => D.int (atZ a x))))] R := fun q =>
      are_fooled_ok k hH (.int 0) (.int 0) (.tup [] (by simp)) (.tup [] (by simp)) (.tup _ (fun d hd => by obtain ⟨z, _, rfl⟩ := List.mem_map.1 hd; exact .int _) (by have := hH.sm; simp; omega)) (by
        have : judge s h rows H f sg (.int 0) (.int 0) (tI []) (tI []) (.tup (H.map fun x => D.int (atZ a x))) = false := by
          unfold judge
          rw [show D.eqv (.int 0) (.int 0) = true from rfl]
          simp
        rw [this]; exact q)
    refine pick_D (l := [.non, .int 0, .tup [], keepO s rows, .obj (Str.ofString "FooledRuns") (foolFs (.int 0) (.int 0) (.tup []) (.tup []) (.tup (H.map fun x => D.int (atZ a x))))]) (by simp) (by simp) fun x hx => ?_
    simp only [List.mem_cons, List.not_mem_nil, or_false] at hx
    have ho : x.kn ["FooledRuns", "Keeping"] = true → x.isCl "FooledRuns" = false → ∀ R : D → Prop, R (.bl false) → W_are_fooled_runs [keepO s rows, tI H, .int f, .bl sg, x] R := fun h1 h2 R q => are_other h1 h2 q
    rcases hx with rfl | rfl | rfl | rfl | rfl
    · exact kk _ (ho rfl rfl)
    · exact kk _ (ho rfl rfl)
    · exact kk _ (ho rfl rfl)
    · exact kk _ (ho kp1 kp2)
    · exact kk _ fun R q => h1 q
  · simp
    exact hd _ (by simpa using q)
end
end K40

namespace K40
open PySem PySem.Spec PyProof.Rows L2 Hl Vl
section
variable {s : Int} {h : Nat} {rows : List (List Int)} {H : List Int} {sg : Bool} {f : Nat} {c6 c8 c10 c11 c12 c13 c14 c15 c16 c17 c18 : Cell}
def rdO (f : Nat) (sg : Bool) : Option Nat → Bool
  | none => true
  | some m => decide (need f sg < m)
theorem readable_o (k : Kp s h rows) (hH : Hs h H) (hf : f ≤ 1000) {o : Option Nat} (ho : IsLeast rows H o) {Q : D → Prop} (q : Q (.bl (rdO f sg o))) : W_is_readable [keepO s rows, tI H, .int f, .bl sg] Q := by
  cases o with
  | none => exact is_readable_ok k hH hf ho q
  | some m => exact is_readable_ok k hH hf ho q
theorem right_R5 (k : Kp s h rows) (hH : Hs h H) (hf : f ≤ 1000) {o : Option Nat} (ho : IsLeast rows H o) {b : Bool} (hb : rdO f sg o = !b) {E : EV} (q : W__law_right_R6 E (rSt s h rows H c6 sg c8 f c10 (.val (.bl b)) c12 c13 c14 c15 c16 c17 c18)) :
    W__law_right_R5 E (rSt s h rows H c6 sg c8 f c10 (.val (.bl b)) c12 c13 c14 c15 c16 c17 c18) := by
  unfold W__law_right_R5
  generalize W__law_right_R6 = R at *
  simp
  refine readable_o k hH hf ho ?_
  rw [hb]
  refine like_bl ?_
  simp
  exact q
end
end K40

namespace K40
open PySem PySem.Spec PyProof.Rows L2 Hl Vl
section
variable {s : Int} {h : Nat} {rows : List (List Int)} {H : List Int} {sg : Bool} {f : Nat} {c6 c8 c10 c11 c12 c13 c14 c15 c16 c17 c18 : Cell}
theorem right_R4 (k : Kp s h rows) (hH : Hs h H) (hf : f ≤ 1000) {o : Option Nat} (ho : IsLeast rows H o) {Q : D → Prop} (q : Q (.bl true)) :
    W__law_right_R4 { nx := fun _ => Q .non, rt := Q } (rSt s h rows H (.val (oD o)) sg c8 f .no .no .no .no .no .no .no .no .no) := by
  have fin0 : rdO f sg o = true → W__law_right_R5 { nx := fun _ => Q .non, rt := Q } (rSt s h rows H (.val (oD o)) sg c8 f (.val .non) (.val (.bl false)) .no .no .no .no .no .no .no) := fun z =>
    right_R5 k hH hf ho (by simpa using z) (right_R6f k hH q)
  have fin1 : ∀ x y : Nat, x < y → y < rows.length → o = some (dst rows H x y) → dst rows H x y ≤ need f sg → W__law_right_R5 { nx := fun _ => Q .non, rt := Q } (rSt s h rows H (.val (oD o)) sg c8 f (.val (foolO rows H f sg x y)) (.val (.bl true)) .no .no .no .no .no .no .no) := fun x y hxy hy e z => by
    refine right_R5 k hH hf ho ?_ (right_R6t (right_told k hH hxy hy z hf q))
    subst e
    simp only [rdO]
    exact decide_eq_false (by omega)
  unfold W__law_right_R4
  generalize W__law_right_R5 = R at *
  refine par2_ev (S := fun d => (d = .non ∧ rdO f sg o = true) ∨ ∃ x y : Nat, x < y ∧ y < rows.length ∧ o = some (dst rows H x y) ∧ dst rows H x y ≤ need f sg ∧ d = foolO rows H f sg x y) (S' := (· = .bl (!rdO f sg o))) ⟨fun K kk => ?_⟩ ⟨fun K kk => ?_⟩ fun a b ha hb => ?_
  · refine fooled_runs_ok k hH hf (fun o' h1 h2 => ?_) fun x y h1 h2 h3 h4 => ?_
    · cases h1.uniq ho
      exact ⟨fun _ => rfl, kk _ (.inl ⟨rfl, by cases o with | none => rfl | some m => exact decide_eq_true h2⟩)⟩
    · exact ⟨fun z => (by cases (show false = true from z)), kk _ (.inr ⟨x, y, h1, h2, ho.uniq h3, h4, rfl⟩)⟩
  · have k1 := kk _ rfl
    clear kk fin0 fin1
    cases o with
    | none => simp [oD, rdO] at k1 ⊢; exact k1
    | some m =>
      cases sg
      · have e : (!decide (2 * f < m)) = decide ((m : Int) ≤ 2 * (f : Int)) := by
          rw [← decide_not]
          exact decide_eq_decide.2 (by omega)
        simp [oD, rdO, need, -Bool.decide_eq_true] at k1 ⊢
        rw [e] at k1
        exact ⟨mul_small (by omega) (by omega), k1⟩
      · have e : (!decide (f < m)) = decide (m ≤ f) := by
          rw [← decide_not]
          exact decide_eq_decide.2 (by omega)
        simp [oD, rdO, need] at k1 ⊢
        rw [e] at k1
        exact k1
  · subst hb
    rcases ha with ⟨rfl, e⟩ | ⟨x, y, h1, h2, h3, h4, rfl⟩
    · rw [e]
      exact fin0 e
    · have e : rdO f sg o = false := by subst h3; exact decide_eq_false (by omega)
      rw [e]
      exact fin1 x y h1 h2 h3 h4
end
end K40

namespace K40
open PySem PySem.Spec PyProof.Rows L2 Hl Vl
theorem hs_sub {h : Nat} (h12 : h ≤ 12) {l : List Nat} (s : l.Sublist (List.range h)) : Hs h (l.map fun (i : Nat) => (i : Int)) := by
  have len : l.length ≤ h := by have := s.length_le; simpa using this
  refine ⟨?_, fun x hx => ?_, by simp; omega⟩
  · rw [List.pairwise_map]
    refine List.Pairwise.imp (fun {a b} h => by omega) (List.Pairwise.sublist s (List.pairwise_lt_range (n := h)))
  · obtain ⟨i, hi, rfl⟩ := List.mem_map.1 hx
    have := List.mem_range.1 (s.subset hi)
    omega
section
variable {s : Int} {h : Nat} {rows : List (List Int)} {H : List Int} {sg : Bool} {f : Nat} {c6 c8 c10 c11 c12 c13 c14 c15 c16 c17 c18 : Cell}
theorem least_le {o : Option Nat} (ho : IsLeast rows H o) : ∀ m, o = some m → m ≤ H.length := fun m e => by
  rcases ho with ⟨z, _⟩ | ⟨x, y, _, _, z, _⟩
  · rw [z] at e; cases e
  · rw [z] at e; cases e
    exact List.length_filter_le ..
theorem right_R3 (k : Kp s h rows) (hH : Hs h H) {o : Option Nat} (ho : IsLeast rows H o) {e : Int} (he : 0 ≤ e ∧ e ≤ 24) {Q : D → Prop} (q : Q (.bl true)) :
    W__law_right_R3 { nx := fun _ => Q .non, rt := Q } [.val .hnd, .val (.int h), .val (.int s), .val (.tup (rows.map tI)), .val (keepO s rows), .val (tI H), .val (oD o), .val (.bl sg), .val (.int e), .no, .no, .no, .no, .no, .no, .no, .no, .no, .no, .no] := by
  have fin : ∀ {f : Nat}, f ≤ 1000 → W__law_right_R4 { nx := fun _ => Q .non, rt := Q } (rSt s h rows H (.val (oD o)) sg (.val (.int e)) f .no .no .no .no .no .no .no .no .no) := fun hf => right_R4 k hH hf ho q
  unfold W__law_right_R3
  generalize W__law_right_R4 = R at *
  refine seq_ev (S := fun d => ∃ f : Nat, d = .int f ∧ f ≤ 1000) ⟨fun K kk => ?_⟩ fun d ⟨f, e, hf⟩ => by subst e; exact fin hf
  have kk' : ∀ z : Int, z ≤ 1000 → K (.int (max 0 z)) [.val .hnd, .val (.int h), .val (.int s), .val (.tup (rows.map tI)), .val (keepO s rows), .val (tI H), .val (oD o), .val (.bl sg), .val (.int e), .no, .no, .no, .no, .no, .no, .no, .no, .no, .no, .no] := fun z hz => kk _ ⟨(max 0 z).toNat, by rw [Int.toNat_of_nonneg (by omega)], by omega⟩
  simp
  refine ⟨div_small (by omega) (by omega), div_small (by omega) (by omega), div_small (by omega) (by omega), fun r r0 r1 => ⟨sz6, ?_⟩⟩
  refine pick_D (l := [.int e, .int (e - 1), .int ((e + 1) / 2), .int (e / 2), .int ((e - 1) / 2), .int r]) (by simp) (by simp) fun x hx => ?_
  simp only [List.mem_cons, List.not_mem_nil, or_false] at hx
  rcases hx with rfl | rfl | rfl | rfl | rfl | rfl <;> exact kk' _ (by omega)
end
end K40

namespace K40
open PySem PySem.Spec PyProof.Rows L2 Hl Vl
def edge : Option Nat → Int
  | none => 1
  | some m => m
section
variable {s : Int} {h : Nat} {rows : List (List Int)} {H : List Int} {sg : Bool} {f : Nat} {c6 c8 c10 c11 c12 c13 c14 c15 c16 c17 c18 : Cell}
theorem right_R2 (k : Kp s h rows) (hH : Hs h H) {Q : D → Prop} (q : Q (.bl true)) :
    W__law_right_R2 { nx := fun _ => Q .non, rt := Q } [.val .hnd, .val (.int h), .val (.int s), .val (.tup (rows.map tI)), .val (keepO s rows), .val (tI H), .no, .no, .no, .no, .no, .no, .no, .no, .no, .no, .no, .no, .no, .no] := by
  have fin : ∀ {o : Option Nat} {b : Bool} {e : Int}, IsLeast rows H o → 0 ≤ e ∧ e ≤ 24 → W__law_right_R3 { nx := fun _ => Q .non, rt := Q } [.val .hnd, .val (.int h), .val (.int s), .val (.tup (rows.map tI)), .val (keepO s rows), .val (tI H), .val (oD o), .val (.bl b), .val (.int e), .no, .no, .no, .no, .no, .no, .no, .no, .no, .no, .no] := fun ho he => right_R3 k hH ho he q
  unfold W__law_right_R2
  generalize W__law_right_R3 = R at *
  refine par2_ev (S := fun d => ∃ o, d = oD o ∧ IsLeast rows H o) (S' := fun d => ∃ b, d = .bl b) ⟨fun K kk => ?_⟩ ⟨fun K kk => ?_⟩ fun a b ⟨o, e1, ho⟩ ⟨b', e2⟩ => ?_
  · refine law_least_ok k hH fun o ho => ⟨fun z => (by cases (show false = true from z)), kk _ ⟨o, rfl, ho⟩⟩
  · simp
    exact fun r _ _ => kk _ ⟨_, rfl⟩
  · subst e1; subst e2
    have le := least_le ho
    have h24 := hH.sm
    have he : 0 ≤ edge o ∧ edge o ≤ 24 := by
      cases o with
      | none => exact ⟨by simp only [edge]; omega, by simp only [edge]; omega⟩
      | some m => have := le m rfl; exact ⟨by simp only [edge]; omega, by simp only [edge]; omega⟩
    have f1 := fin (b := b') ho he
    refine seq_ev (S := (· = .int (edge o))) ⟨fun K kk => ?_⟩ fun d hd => ?_
    · cases o with
      | none => exact ⟨fun z => (by cases z), fun _ => kk _ rfl⟩
      | some m => exact ⟨fun _ => kk _ rfl, fun z => (by cases z)⟩
    · subst hd
      exact f1
end
end K40

namespace K40
open PySem PySem.Spec PyProof.Rows L2 Hl Vl
section
variable {s : Int} {h : Nat} {rows : List (List Int)} {H : List Int} {sg : Bool} {f : Nat} {c6 c8 c10 c11 c12 c13 c14 c15 c16 c17 c18 : Cell}
theorem right_R1 (k : Kp s h rows) {Q : D → Prop} (q : Q (.bl true)) :
    W__law_right_R1 { nx := fun _ => Q .non, rt := Q } [.val .hnd, .val (.int h), .val (.int s), .val (.tup (rows.map tI)), .no, .no, .no, .no, .no, .no, .no, .no, .no, .no, .no, .no, .no, .no, .no, .no] := by
  have h12 := k.h12
  have fin : ∀ {l : List Nat}, l.Sublist (List.range h) → W__law_right_R2 { nx := fun _ => Q .non, rt := Q } [.val .hnd, .val (.int h), .val (.int s), .val (.tup (rows.map tI)), .val (keepO s rows), .val (tI (l.map fun (i : Nat) => (i : Int))), .no, .no, .no, .no, .no, .no, .no, .no, .no, .no, .no, .no, .no, .no] := fun sl => right_R2 k (hs_sub h12 sl) q
  unfold W__law_right_R1
  generalize W__law_right_R2 = R at *
  simp [-lcV]
  refine keeping_ok k (.inl rfl) ?_
  refine ⟨by omega, ?_⟩
  rw [rgD_map]
  refine lc_sub (fun j : Nat => D.int ((0 : Int) + (j : Nat))) (by simp) _ [] (fun a ha K kk => ?_) rfl (le_sz (by simp; omega)) fun l' sl => ?_
  · simp at kk ⊢
    exact fun r _ _ => by cases decide (0 < r); exact kk.1; exact kk.2
  · have := fin sl
    rw [show tI (l'.map fun (i : Nat) => (i : Int)) = .tup (l'.map fun (j : Nat) => D.int j) by unfold tI; rw [List.map_map]; rfl] at this
    simp
    exact this
end
end K40

namespace K40
open PySem PySem.Spec PyProof.Rows L2 Hl Vl
section
variable {s : Int} {h : Nat} {rows : List (List Int)} {H : List Int} {sg : Bool} {f : Nat} {c6 c8 c10 c11 c12 c13 c14 c15 c16 c17 c18 : Cell}
theorem right_ok {h : Nat} (hh : 1 ≤ h ∧ h ≤ 12) {Q : D → Prop} (q : Q (.bl true)) : W__law_right [.hnd, .int h] Q := by
  rw [W__law_right_eq]
  have fin : ∀ {s : Int} {rows : List (List Int)}, Kp s h rows → W__law_right_R1 { nx := fun _ => Q .non, rt := Q } [.val .hnd, .val (.int h), .val (.int s), .val (.tup (rows.map tI)), .no, .no, .no, .no, .no, .no, .no, .no, .no, .no, .no, .no, .no, .no, .no, .no] := fun k => right_R1 k q
  generalize W__law_right_R1 = R at *
  simp
  refine law_rows_ok hh fun s rows k _ => ?_
  simp
  exact fin k
end
end K40

namespace K40
open PySem PySem.Spec PyProof.Rows L2 Hl Vl
def W__law_crowd_right_R5 : WS := (wSeq (wSet (wCall W_fooled_runs [] (wCons (wSl 6) (wCons (wSl 7) (wCons (wOf (wC (.int 0))) (wCons (wOf (wOp gEq (wOf (wCall W__law_draw [] (wCons (wSl 0) (wCons (wOf (wC (.int 2))) wNil)))) (wOf (wC (.int 0))))) wNil))))) (gV 9)) (wRet (wAndV (wIsiO ["FooledRuns", "Keeping"] "FooledRuns" (wSl 9)) (wAndV (wOp gEq (wOf (wFld "liars" (wVar 9))) (wOf (wTup wNil))) (wAndV (wOp gEq (wOf (wFld "others" (wVar 9))) (wOf (wTup wNil))) (wOp gEq (wOf (wSl3 (wOf (wOp gIx (wSl 3) (wOf (wFld "one" (wVar 9))))) wPN (wPS (wVar 2)))) (wOf (wSl3 (wOf (wOp gIx (wSl 3) (wOf (wFld "other" (wVar 9))))) wPN (wPS (wVar 2))))))))))
def W__law_crowd_right_R4 : WS := (wSeq (wIf (wOr (wNot (wTru (wOf (wIsiT ["FooledRuns", "Keeping"] [.tuple] (wSl 8))))) (wOr (wTst (wOp gNe (wOf (wCB gLen (wCons (wSl 8) wNil))) (wOf (wC (.int 2))))) (wOr (wNot (wTst (wChain3 gLe gLt gLt (wC (.int 0)) (wOp gIx (wSl 8) (wOf (wC (.int 0)))) (wOp gIx (wSl 8) (wOf (wC (.int 1)))) (wCB gLen (wCons (wSl 3) wNil))))) (wTst (wOp gNe (wOf (wSl3 (wOf (wOp gIx (wSl 3) (wOf (wOp gIx (wSl 8) (wOf (wC (.int 0))))))) wPN (wPS (wVar 2)))) (wOf (wSl3 (wOf (wOp gIx (wSl 3) (wOf (wOp gIx (wSl 8) (wOf (wC (.int 1))))))) wPN (wPS (wVar 2))))))))) (wRet (wC (.bl false))) wNext) W__law_crowd_right_R5)
def W__law_crowd_right_R3 : WS := (wSeq (wSet (wCall W_crowded [] (wCons (wSl 6) (wCons (wSl 7) wNil))) (gV 8)) W__law_crowd_right_R4)
def W__law_crowd_right_R2 : WS := (wSeq (wFrz 3 (wPar2 6 7 (wQc (wQv (wMake "Keeping" W_Keeping_init [] (wCons (wOf (wVar 1)) (wCons (wOf (wVar 3)) wNil)))) (wQc (wQv (wRgT1 (wVar 2))) wQn)))) W__law_crowd_right_R3)
def W__law_crowd_right_R1 : WS := (wSeq (wFor (wRg1 (wCons (wOf (wOp gAdd (wSl 4) (wOf (wC (.int 1))))) wNil)) (gV 5) W__law_crowd_right_L1) W__law_crowd_right_R2)
theorem W__law_crowd_right_eq : W__law_crowd_right = wDef 1 11 (wSeq (wParT [1, 2] (wQc (wQv (wOp gAdd (wOf (wC (.int 2))) (wOf (wCall W__law_draw [] (wCons (wSl 0) (wCons (wOf (wC (.int 3))) wNil)))))) (wQc (wQv (wOp gAdd (wOf (wC (.int 1))) (wOf (wCall W__law_draw [] (wCons (wSl 0) (wCons (wOf (wC (.int 2))) wNil)))))) wQn))) (wSeq (wPar2 3 4 (wQc (wQf (wLst wNil)) (wQc (wQv (wIfE (wTst (wOp gEq (wSl 2) (wOf (wC (.int 1))))) (wOp gPow (wSl 1) (wOf (wC (.int 1)))) (wOp gPow (wSl 1) (wOf (wC (.int 2)))))) wQn))) W__law_crowd_right_R1)) := rfl
def dig (s : Int) (v : Nat) : List Int := [(v : Int) % s, (v : Int) / s % s, (v : Int) / (s * s) % s]
theorem dig_inj {s : Int} (hs : 2 ≤ s ∧ s ≤ 4) {v w : Nat} (hv : (v : Int) ≤ s ^ 2) (hw : (w : Int) ≤ s ^ 2) (h : dig s v = dig s w) : v = w := by
  have : s = 2 ∨ s = 3 ∨ s = 4 := by omega
  simp only [dig, List.cons.injEq, and_true] at h
  obtain ⟨h1, h2, h3⟩ := h
  rcases this with rfl | rfl | rfl <;> simp at * <;> omega
theorem dig_rg {s : Int} (hs : 2 ≤ s) {v : Nat} : ∀ x ∈ dig s v, 0 ≤ x ∧ x < s := fun x hx => by
  simp only [dig, List.mem_cons, List.not_mem_nil, or_false] at hx
  rcases hx with rfl | rfl | rfl <;> exact ⟨Int.emod_nonneg _ (by omega), Int.emod_lt_of_pos _ (by omega)⟩
/-- the rows made so far -/
def GoodC (s : Int) (few : Nat) (R : List (List Int)) : Prop := ∀ i, i < R.length → ∃ pre : List Int, rowN R i = pre ++ dig s i ∧ pre.length = few ∧ ∀ x ∈ pre, 0 ≤ x ∧ x < s
theorem GoodC.app {s : Int} {few : Nat} {R : List (List Int)} (g : GoodC s few R) {pre : List Int} (h1 : pre.length = few) (h2 : ∀ x ∈ pre, 0 ≤ x ∧ x < s) : GoodC s few (R ++ [pre ++ dig s R.length]) := fun i hi => by
  by_cases e : i < R.length
  · obtain ⟨p, a, b, c⟩ := g i e
    refine ⟨p, ?_, b, c⟩
    rw [← a]
    simp [rowN, List.getElem?_append_left e]
  · have : i = R.length := by simp at hi; omega
    subst this
    exact ⟨pre, by simp [rowN], h1, h2⟩
abbrev cSt (s : Int) (few : Nat) (c3 : Cell) (many : Int) (c5 c6 c7 c8 c9 : Cell) : Vn := [.val .hnd, .val (.int s), .val (.int few), c3, .val (.int many), c5, c6, c7, c8, c9, .no]
section
variable {s : Int} {few : Nat} {many : Int}
theorem draws_lc1 {ρ : Vn} {n i : Nat} {Q : List D → Vn → Prop} (hs : 2 ≤ s ∧ s ≤ 12) (hn : n ≤ 1000) (h0 : ρ.set i .no = ρ) (hi0 : i ≠ 0) (hi2 : i ≠ 1) (e0 : ρ.getD 0 .no = .val .hnd) (e2 : ρ.getD 1 .no = .val (.int s))
    (hS : ∀ ns : List Int, ns.length = n → (∀ x ∈ ns, 0 ≤ x ∧ x < s) → Q (ns.map D.int) ρ) : lcV (gV i) wYes (wCall W__law_draw [] (wCons (wSl 0) (wCons (wSl 1) wNil))) [i] (rgD 0 n) [] ρ Q := by
  rw [rgD_map]
  refine lc_rel (fun j : Nat => D.int ((0 : Int) + (j : Nat))) (fun _ d => ∃ x : Int, d = .int x ∧ 0 ≤ x ∧ x < s) _ [] (fun a ha A k1 => ?_) h0 (by simp; exact le_sz (by omega)) fun out ho => ?_
  · have f0 : (ρ.set i (.val (.int ((0 : Int) + (a : Nat))))).getD 0 .no = .val .hnd := by
      rw [List.getD_eq_getElem?_getD, List.getElem?_set_ne hi0, ← List.getD_eq_getElem?_getD, e0]
    have f2 : (ρ.set i (.val (.int ((0 : Int) + (a : Nat))))).getD 1 .no = .val (.int s) := by
      rw [List.getD_eq_getElem?_getD, List.getElem?_set_ne hi2, ← List.getD_eq_getElem?_getD, e2]
    generalize ρ.set i (.val (.int ((0 : Int) + (a : Nat)))) = ρ1 at *
    rw [List.getD_eq_getElem?_getD] at f0 f2
    have a3 : (0 : Int) < s := by omega
    have a4 : s < 1073741824 := by omega
    simp [f0, f2, a3, a4]
    exact fun r r0 r1 => k1 _ ⟨r, rfl, r0, r1⟩
  · obtain ⟨ns, rfl, hns⟩ := ho.map (enc := D.int) (T := fun _ x => 0 ≤ x ∧ x < s) fun a d ⟨x, h1, h2⟩ => ⟨x, h1, h2⟩
    rw [List.nil_append]
    refine hS ns (by have := ho.len; simpa using this) fun x hx => ?_
    obtain ⟨_, _, h2⟩ := hns x hx
    exact h2
theorem crowd_row {D' : EV} {R : List (List Int)} {c5 c6 c7 c8 c9 : Cell} (hs : 2 ≤ s ∧ s ≤ 4) (hf : few ≤ 2) (hR : R.length ≤ 20) (q : ∀ pre : List Int, pre.length = few → (∀ x ∈ pre, 0 ≤ x ∧ x < s) → D'.nx (cSt s few (.own ((R ++ [pre ++ dig s R.length]).map tI)) many (.val (.int R.length)) c6 c7 c8 c9)) :
    W__law_crowd_right_L1 D' (cSt s few (.own (R.map tI)) many (.val (.int R.length)) c6 c7 c8 c9) := by
  have z3 : (3 : Nat) ≤ sizeLine := by decide
  unfold W__law_crowd_right_L1
  refine app_ev (i := 3) (l := R.map tI) (P := fun d => ∃ pre : List Int, d = tI (pre ++ dig s R.length) ∧ pre.length = few ∧ ∀ x ∈ pre, 0 ≤ x ∧ x < s) rfl (Ev.op (S1 := fun d => ∃ pre : List Int, d = tI pre ∧ pre.length = few ∧ ∀ x ∈ pre, 0 ≤ x ∧ x < s) (S2 := (· = tI (dig s R.length))) ⟨fun K k => ?_⟩ ⟨fun K k => ?_⟩ fun a b ⟨pre, h1, h2, h3⟩ h4 K k => ?_) (lt_sz (by simp; omega)) fun d ⟨pre, h1, h2, h3⟩ => ?_
  · simp [-lcV]
    refine ⟨by omega, draws_lc1 (by omega) (by omega) rfl (by decide) (by decide) rfl rfl fun ns h1 h2 => ?_⟩
    exact k _ ⟨ns, rfl, h1, h2⟩
  · have kk := k _ rfl
    simp [z3, dig] at kk ⊢
    have ss : 0 < s * s ∧ s * s ≤ 16 := by
      have : s = 2 ∨ s = 3 ∨ s = 4 := by omega
      rcases this with rfl | rfl | rfl <;> decide
    exact ⟨by omega, div_small (by omega) (by omega), by omega, mul_small (by omega) (by omega), div_small (by omega) (by omega), by omega, kk⟩
  · subst h1; subst h4
    have := k _ ⟨pre, rfl, h2, h3⟩
    have e : tI (pre ++ dig s R.length) = .tup (pre.map D.int ++ (dig s R.length).map D.int) := by unfold tI; rw [List.map_append]
    rw [e] at this
    exact ⟨le_sz (by simp [dig]; omega), this⟩
  · subst h1
    have := q pre h2 h3
    rw [List.map_append] at this
    exact this
theorem crowd_loop2 {D' : EV} {c6 c7 c8 c9 : Cell} (hs : 2 ≤ s ∧ s ≤ 4) (hf : few ≤ 2) : ∀ (n : Nat) {R : List (List Int)} {c5 : Cell}, GoodC s few R → R.length + n ≤ 20 →
    (∀ (R' : List (List Int)) (d5 : Cell), GoodC s few R' → R'.length = R.length + n → D'.nx (cSt s few (.own (R'.map tI)) many d5 c6 c7 c8 c9)) →
    forV (gV 5) W__law_crowd_right_L1 (rgD (R.length : Nat) n) D' (cSt s few (.own (R.map tI)) many c5 c6 c7 c8 c9)
  | 0, R, c5, g, _, q => q R _ g rfl
  | n + 1, R, c5, g, hz, q => by
    rw [rgD_succ, for_cons]
    simp only [gV]
    have nx : ∀ pre : List Int, pre.length = few → (∀ x ∈ pre, 0 ≤ x ∧ x < s) → forV (gV 5) W__law_crowd_right_L1 (rgD ((R.length : Int) + 1) n) D' (cSt s few (.own ((R ++ [pre ++ dig s R.length]).map tI)) many (.val (.int R.length)) c6 c7 c8 c9) := fun pre h1 h2 => by
      have := crowd_loop2 (D' := D') (c6 := c6) (c7 := c7) (c8 := c8) (c9 := c9) hs hf n (c5 := .val (.int R.length)) (g.app h1 h2) (by simp; omega) fun R' d5 g' l' => q R' d5 g' (by simp at l'; omega)
      rw [show (((R ++ [pre ++ dig s R.length]).length : Nat) : Int) = (R.length : Int) + 1 by simp] at this
      exact this
    exact crowd_row (c5 := c5) hs hf (by omega) nx
theorem GoodC.kp {R : List (List Int)} (hs : 2 ≤ s ∧ s ≤ 4) (hf : 1 ≤ few ∧ few ≤ 2) (g : GoodC s few R) (h1 : 1 ≤ R.length) (h2 : (R.length : Int) ≤ s ^ 2 + 1) : Kp s (few + 3) R := by
  have hs2 : s ^ 2 ≤ 16 := by
    have : s = 2 ∨ s = 3 ∨ s = 4 := by omega
    rcases this with rfl | rfl | rfl <;> decide
  have mem : ∀ r ∈ R, ∃ i, i < R.length ∧ rowN R i = r := fun r hr => by
    obtain ⟨i, hi, e⟩ := List.mem_iff_getElem.1 hr
    exact ⟨i, hi, by rw [rowN, List.getD_eq_getElem?_getD, List.getElem?_eq_getElem hi]; exact e⟩
  refine ⟨hs.1, by omega, h1, by omega, by omega, by omega, ?_, fun r hr => ?_, fun r hr x hx => ?_⟩
  · rw [List.Nodup, List.pairwise_iff_getElem]
    intro i j hi hj hij e
    obtain ⟨p, a, b, c⟩ := g i (by omega)
    obtain ⟨p', a', b', c'⟩ := g j hj
    have : rowN R i = rowN R j := by rw [rowN, rowN, List.getD_eq_getElem?_getD, List.getD_eq_getElem?_getD, List.getElem?_eq_getElem hi, List.getElem?_eq_getElem hj, e]
    rw [a, a'] at this
    have := (List.append_inj this (by omega)).2
    have := dig_inj hs (by omega) (by omega) this
    omega
  · obtain ⟨i, hi, rfl⟩ := mem r hr
    obtain ⟨p, a, b, c⟩ := g i hi
    rw [a]
    simp [dig, b]
  · obtain ⟨i, hi, rfl⟩ := mem r hr
    obtain ⟨p, a, b, c⟩ := g i hi
    rw [a] at hx
    rcases List.mem_append.1 hx with hx | hx
    · exact c x hx
    · exact dig_rg hs.1 x hx
/-- all rows of so many states -/
def allF (s : Nat) : Nat → List (List Int)
  | 0 => [[]]
  | n + 1 => (List.range s).flatMap fun (a : Nat) => (allF s n).map fun l => ((a : Int) :: l)
theorem allF_len {s : Nat} : ∀ n, (allF s n).length = s ^ n
  | 0 => rfl
  | n + 1 => by
    rw [allF, List.length_flatMap]
    simp [allF_len n, Nat.pow_succ, Nat.mul_comm, List.map_const', List.sum_replicate_nat]
theorem mem_allF {s : Nat} : ∀ {l : List Int}, (∀ x ∈ l, 0 ≤ x ∧ x < (s : Int)) → l ∈ allF s l.length
  | [], _ => by simp [allF]
  | a :: l, h => by
    have h0 := h a (List.mem_cons_self ..)
    rw [List.length_cons, allF, List.mem_flatMap]
    have ha : a.toNat < s := by omega
    refine ⟨a.toNat, List.mem_range.2 ha, List.mem_map.2 ⟨l, mem_allF fun x hx => h x (List.mem_cons_of_mem _ hx), ?_⟩⟩
    rw [Int.toNat_of_nonneg h0.1]
/-- the first houses -/
def firstH (n : Nat) : List Int := (List.range n).map fun (i : Nat) => (i : Int)
theorem firstH_hs {h n : Nat} (hn : n ≤ h) (h12 : h ≤ 12) : Hs h (firstH n) := hs_sub h12 (List.range_sublist.2 hn)
theorem prj_first {n : Nat} {pre r : List Int} (h : pre.length = n) : prj (firstH n) (pre ++ r) = pre := by
  subst h
  refine List.ext_getElem (by simp [prj, firstH]) fun i h1 h2 => ?_
  simp [prj, firstH, atZ, List.getElem?_append_left h2, List.getElem?_eq_getElem h2]
end
end K40

namespace K40
open PySem PySem.Spec PyProof.Rows L2 Hl Vl
abbrev dSt (s : Int) (few : Nat) (R : List (List Int)) (many : Int) (c5 : Cell) (c8 c9 : Cell) : Vn := [.val .hnd, .val (.int s), .val (.int few), .val (.lst (R.map tI)), .val (.int many), c5, .val (keepO s R), .val (tI (firstH few)), c8, c9, .no]
theorem cut_few {r : List Int} {n : Nat} : cutD (r.map D.int) none (some (n : Int)) = (r.take n).map D.int := by
  rw [cut_take, List.map_take]
theorem prj_nil {H a b : List Int} (h : unl a b H = []) : prj H a = prj H b := by
  unfold unl at h
  rw [List.filter_eq_nil_iff] at h
  unfold prj
  refine List.map_congr_left fun x hx => ?_
  have := h x hx
  simpa using this
theorem unl_nil {H a b : List Int} (h : prj H a = prj H b) : unl a b H = [] := by
  unfold unl
  rw [List.filter_eq_nil_iff]
  unfold prj at h
  rw [List.map_inj_left] at h
  intro x hx
  simp [h x hx]
section
variable {s : Int} {few : Nat} {many : Int} {R : List (List Int)} {c5 c8 c9 : Cell}
theorem GoodC.take (g : GoodC s few R) {i : Nat} (hi : i < R.length) : prj (firstH few) (rowN R i) = (rowN R i).take few := by
  obtain ⟨p, a, b, c⟩ := g i hi
  rw [a, prj_first b, ← b, List.take_left]
theorem crowd_R5 {h : Nat} (k : Kp s h R) (hH : Hs h (firstH few)) (g : GoodC s few R) {i j : Nat} (hij : i < j) (hj : j < R.length) (he : prj (firstH few) (rowN R i) = prj (firstH few) (rowN R j)) {Q : D → Prop} (q : Q (.bl true)) :
    W__law_crowd_right_R5 { nx := fun _ => Q .non, rt := Q } (dSt s few R many c5 c8 c9) := by
  unfold W__law_crowd_right_R5
  refine seq_ev (S := fun d => ∃ x y : Nat, x < R.length ∧ y < R.length ∧ (rowN R x).take few = (rowN R y).take few ∧ ∃ gg, d = .obj "FooledRuns" (foolFs (.int x) (.int y) (tI []) (tI []) gg)) ⟨fun K kk => ?_⟩ fun d ⟨x, y, h1, h2, h3, gg, hd⟩ => ?_
  · simp
    intro r r0 r1
    refine fooled_runs_ok (f := 0) (sg := decide (r = 0)) k hH (by omega) (fun o ho hlt => ?_) fun x y h1 h2 h3 h4 => ?_
    · exfalso
      have hd : dst R (firstH few) i j = 0 := by
        show (unl (rowN R i) (rowN R j) (firstH few)).length = 0
        rw [unl_nil he]; rfl
      rcases ho with ⟨rfl, z⟩ | ⟨x, y, a1, a2, rfl, a4⟩
      · omega
      · have := a4 i j hij hj
        simp only at hlt
        omega
    · have hn : need 0 (decide (r = 0)) = 0 := by unfold need; split <;> rfl
      rw [hn] at h4
      have hu : unl (rowN R x) (rowN R y) (firstH few) = [] := List.length_eq_zero_iff.1 (Nat.le_zero.1 h4)
      have hp := prj_nil hu
      rw [g.take (by omega), g.take h2] at hp
      refine kk _ ⟨x, y, by omega, h2, hp, ((firstH few).map (shF (decide (r = 0)) (rowN R x) (rowN R y) [] [])).map stD |> D.tup, ?_⟩
      unfold foolO
      rw [hu]
      cases decide (r = 0) <;> rfl
  · subst hd
    have ex := at_rows h1
    have ey := at_rows h2
    have cx : cutD ((rowN R x).map D.int) none (some (few : Int)) = ((rowN R y).take few).map D.int := by rw [cut_few, h3]
    have cy : cutD ((rowN R y).map D.int) none (some (few : Int)) = ((rowN R y).take few).map D.int := cut_few
    generalize (rowN R y).take few = l at *
    simp [ex, ey, cx, cy]
    have e1 : (tI []).eqv (.tup []) = true := rfl
    have e2 : ¬ (tI []).eqv (.tup []) = false := fun z => by rw [e1] at z; cases z
    exact ⟨dat_nil, fun _ => ⟨dat_nil, fun _ => q, fun z => absurd z e2⟩, fun z => absurd z e2⟩
theorem crowd_R4 {h : Nat} (k : Kp s h R) (hH : Hs h (firstH few)) (g : GoodC s few R) {i j : Nat} (hij : i < j) (hj : j < R.length) (he : prj (firstH few) (rowN R i) = prj (firstH few) (rowN R j)) {Q : D → Prop} (q : Q (.bl true)) :
    W__law_crowd_right_R4 { nx := fun _ => Q .non, rt := Q } (dSt s few R many c5 (.val (.tup [.int i, .int j])) c9) := by
  have fin : W__law_crowd_right_R5 { nx := fun _ => Q .non, rt := Q } (dSt s few R many c5 (.val (.tup [.int i, .int j])) c9) := crowd_R5 k hH g hij hj he q
  have h3 := he
  rw [g.take (by omega), g.take hj] at h3
  have ex := at_rows (rows := R) (i := i) (by omega)
  have ey := at_rows hj
  have cx : cutD ((rowN R i).map D.int) none (some (few : Int)) = ((rowN R j).take few).map D.int := by rw [cut_few, h3]
  have cy : cutD ((rowN R j).map D.int) none (some (few : Int)) = ((rowN R j).take few).map D.int := cut_few
  generalize (rowN R j).take few = l at *
  unfold W__law_crowd_right_R4
  generalize W__law_crowd_right_R5 = R5 at *
  refine seq_ifn (fun K kk => Tv.or_f (fun K kk => ?_) (Tv.or_f (fun K kk => ?_) (Tv.or_f (fun K kk => ?_) (fun K kk => ?_))) K kk) fin
  · simp
    exact kk
  · simp
    exact kk
  · simp
    exact ⟨fun _ => by rw [decide_eq_true hj]; exact kk, fun z => absurd z (by omega)⟩
  · simp [ex, ey, cx, cy]
    exact kk
theorem crowd_R3 (hs : 2 ≤ s ∧ s ≤ 4) (hf : 1 ≤ few ∧ few ≤ 2) (g : GoodC s few R) (hl : (R.length : Int) = s ^ few + 1) (k : Kp s (few + 3) R) {Q : D → Prop} (q : Q (.bl true)) :
    W__law_crowd_right_R3 { nx := fun _ => Q .non, rt := Q } (dSt s few R many c5 c8 c9) := by
  have hH : Hs (few + 3) (firstH few) := firstH_hs (by omega) (by omega)
  have fin : ∀ {i j : Nat}, i < j → j < R.length → prj (firstH few) (rowN R i) = prj (firstH few) (rowN R j) → W__law_crowd_right_R4 { nx := fun _ => Q .non, rt := Q } (dSt s few R many c5 (.val (.tup [.int i, .int j])) c9) := fun h1 h2 h3 => crowd_R4 k hH g h1 h2 h3 q
  unfold W__law_crowd_right_R3
  generalize W__law_crowd_right_R4 = R4 at *
  simp
  obtain ⟨s', rfl⟩ : ∃ s' : Nat, s = s' := ⟨s.toNat, by omega⟩
  refine crowded_ok k hH (all := allF s' few) ?_ (fun r hr => ?_) fun i j h1 h2 h3 => ?_
  · rw [allF_len]
    have : ((s' ^ few : Nat) : Int) = (s' : Int) ^ few := by simp
    omega
  · obtain ⟨i, hi, e⟩ := List.mem_iff_getElem.1 hr
    have e' : rowN R i = r := by rw [rowN, List.getD_eq_getElem?_getD, List.getElem?_eq_getElem hi]; exact e
    obtain ⟨p, a, b, c⟩ := g i hi
    rw [← e', a, prj_first b, ← b]
    exact mem_allF c
  · exact fin h1 h2 h3
theorem crowd_R2 (hs : 2 ≤ s ∧ s ≤ 4) (hf : 1 ≤ few ∧ few ≤ 2) (g : GoodC s few R) (hl : (R.length : Int) = s ^ few + 1) (k : Kp s (few + 3) R) {Q : D → Prop} (q : Q (.bl true)) :
    W__law_crowd_right_R2 { nx := fun _ => Q .non, rt := Q } (cSt s few (.own (R.map tI)) many c5 .no .no c8 c9) := by
  have fin : W__law_crowd_right_R3 { nx := fun _ => Q .non, rt := Q } (dSt s few R many c5 c8 c9) := crowd_R3 hs hf g hl k q
  unfold W__law_crowd_right_R2
  generalize W__law_crowd_right_R3 = R3 at *
  simp
  refine keeping_ok k (.inr rfl) ⟨⟨by omega, by omega⟩, ?_⟩
  have e : D.tup (rgD 0 few) = tI (firstH few) := by
    unfold tI firstH
    rw [rgD_map, List.map_map]
    congr 1
    refine List.map_congr_left fun i _ => ?_
    show D.int ((0 : Int) + (i : Nat)) = D.int (i : Nat)
    rw [Int.zero_add]
  rw [e]
  exact fin
theorem crowd_R1 (hs : 2 ≤ s ∧ s ≤ 4) (hf : 1 ≤ few ∧ few ≤ 2) {Q : D → Prop} (q : Q (.bl true)) :
    W__law_crowd_right_R1 { nx := fun _ => Q .non, rt := Q } (cSt s few (.own []) (s ^ few) .no .no .no .no .no) := by
  have hp : 2 ≤ s ^ few ∧ s ^ few ≤ 16 ∧ s ^ few ≤ s ^ 2 := by
    have h1 : s = 2 ∨ s = 3 ∨ s = 4 := by omega
    have h2 : few = 1 ∨ few = 2 := by omega
    rcases h1 with rfl | rfl | rfl <;> rcases h2 with rfl | rfl <;> decide
  have fin : ∀ {R : List (List Int)} {c5 : Cell}, GoodC s few R → (R.length : Int) = s ^ few + 1 → W__law_crowd_right_R2 { nx := fun _ => Q .non, rt := Q } (cSt s few (.own (R.map tI)) (s ^ few) c5 .no .no .no .no) := fun g hl =>
    crowd_R2 hs hf g hl (g.kp hs hf (by omega) (by omega)) q
  unfold W__law_crowd_right_R1
  generalize s ^ few = m at *
  generalize W__law_crowd_right_R2 = R2 at *
  simp [-forV]
  refine ⟨by omega, ?_⟩
  exact crowd_loop2 hs hf.2 (m + 1).toNat (R := []) (fun i hi => by simp at hi) (by simp; omega) fun R' d5 g' l' => fin g' (by simp at l'; omega)
theorem crowd_right_ok {Q : D → Prop} (q : Q (.bl true)) : W__law_crowd_right [.hnd] Q := by
  rw [W__law_crowd_right_eq]
  have fin : ∀ {s : Int} {few : Nat}, 2 ≤ s ∧ s ≤ 4 → 1 ≤ few ∧ few ≤ 2 → W__law_crowd_right_R1 { nx := fun _ => Q .non, rt := Q } (cSt s few (.own []) (s ^ few) .no .no .no .no .no) := fun hs hf => crowd_R1 hs hf q
  generalize W__law_crowd_right_R1 = R1 at *
  simp
  refine fun r r0 r1 r' r0' r1' => ⟨sz2', fun z => ⟨⟨by decide, by decide, by omega⟩, ?_⟩, fun z => ⟨⟨by decide, by decide, by omega⟩, ?_⟩⟩
  · obtain rfl : r' = 0 := by omega
    exact fin (s := 2 + r) (few := 1) (by omega) (by omega)
  · obtain rfl : r' = 1 := by omega
    exact fin (s := 2 + r) (few := 2) (by omega) (by omega)
end
end K40

namespace K40
open PySem PySem.Spec PyProof.Rows L2 Hl Vl
/-- the keeping that is told in the law -/
abbrev kRows : List (List Int) := [[0, 0, 0], [1, 1, 1]]
theorem kKp : Kp 2 3 kRows := by
  refine ⟨by omega, by omega, by decide, by decide, by omega, by omega, by decide, by decide, ?_⟩
  intro r hr x hx
  simp only [kRows, List.mem_cons, List.not_mem_nil, or_false] at hr
  rcases hr with rfl | rfl <;> simp at hx <;> subst hx <;> omega
theorem kHs3 : Hs 3 [0, 1, 2] := ⟨by decide, by decide, by decide⟩
theorem kHs2 : Hs 3 [0, 1] := ⟨by decide, by decide, by decide⟩
theorem right_loop4 {D' : EV} {c0 c3 : Cell} : ∀ (n : Nat) {lo : Int} {c2 : Cell}, (∀ d2, D'.nx [c0, .val .hnd, d2, c3]) → forV (gV 2) W_law_L1 (rgD lo n) D' [c0, .val .hnd, c2, c3]
  | 0, lo, c2, q => q _
  | n + 1, lo, c2, q => by
    rw [rgD_succ, for_cons]
    have nx : ∀ d2, forV (gV 2) W_law_L1 (rgD (lo + 1) n) D' [c0, .val .hnd, d2, c3] := fun d2 => right_loop4 n q
    generalize forV (gV 2) W_law_L1 (rgD (lo + 1) n) D' = F at *
    simp [W_law_L1]
    refine ⟨le_sz (by omega), pick_D (l := [.int 4, .int 8, .int 12]) (by simp) (by simp) fun x hx => ?_⟩
    have : ∃ i : Int, x = .int i ∧ 4 ≤ i ∧ i ≤ 12 := by
      simp only [List.mem_cons, List.not_mem_nil, or_false] at hx
      rcases hx with rfl | rfl | rfl
      · exact ⟨4, rfl, by omega, by omega⟩
      · exact ⟨8, rfl, by omega, by omega⟩
      · exact ⟨12, rfl, by omega, by omega⟩
    obtain ⟨i, rfl, i0, i1⟩ := this
    simp
    refine ⟨by omega, by omega, fun r r0 r1 => ?_⟩
    obtain ⟨m, em⟩ : ∃ m : Nat, 1 + r = m := ⟨(1 + r).toNat, by omega⟩
    rw [em]
    refine right_ok (by omega) ?_
    simp
    refine crowd_right_ok ?_
    simp
    exact nx _
theorem kFar {x y : Nat} (h1 : x < y) (h2 : y < kRows.length) : dst kRows [0, 1, 2] x y = 3 ∧ dst kRows [0, 1] x y = 2 := by
  have : y < 2 := h2
  obtain rfl : y = 1 := by omega
  obtain rfl : x = 0 := by omega
  exact ⟨by decide, by decide⟩
theorem law_gen {R : D → Prop} (q : R (.bl true)) {ns : List Int} (hl : ns.length ≤ 63) : W_law [.scr ns] R := by
  have z3 : (3 : Nat) ≤ sizeLine := by decide
  simp [W_law, -forV]
  refine ⟨hl, right_loop4 4 fun d2 => ?_⟩
  simp [z3, sz2']
  refine keeping_ok (X := .tup (kRows.map tI)) kKp (.inl rfl) ?_
  have f1 : ∀ {Q : D → Prop}, Q .non → W_fooled_runs [keepO 2 kRows, tI [0, 1, 2], .int (1 : Nat), .bl false] Q := fun q => fooled_runs_ok kKp kHs3 (by omega) (fun o _ _ => q) fun x y h1 h2 h3 h4 => by
    rw [(kFar h1 h2).1] at h4
    exact absurd h4 (by decide)
  have f2 : ∀ {Q : D → Prop}, (∀ fs, Q (.obj "FooledRuns" fs)) → W_fooled_runs [keepO 2 kRows, tI [0, 1], .int (1 : Nat), .bl false] Q := fun q => fooled_runs_ok kKp kHs2 (by omega) (fun o ho hlt => by
    rcases ho with ⟨rfl, z⟩ | ⟨x, y, a1, a2, rfl, a4⟩
    · exact absurd z (by decide)
    · simp only at hlt
      rw [(kFar a1 a2).2] at hlt
      exact absurd hlt (by decide)) fun x y _ _ _ _ => q _
  refine f1 ⟨fun _ => ?_, fun z => (by cases z)⟩
  refine f2 fun fs => ?_
  simpa using q
theorem law_true : ∀ ns : List Int, ns.length ≤ 63 → W_law [.scr ns] fun d => d = .bl true := fun ns hns => law_gen (R := fun d => d = D.bl true) (Eq.refl (D.bl true)) hns
end K40

namespace K40
open PySem PySem.Spec PyProof.Rows L2 Hl Vl
theorem all_mk {l : PySem.W.OpenLaw} {w : World} {K : PySem.W.Frag} {h : Heap} {mg : Str → Option Value} {fa : Addr} (X : K.In h) (G : h.Ns mainGlobals mg) (hfa : mg "law" = some (.ref fa))
    {f_0 f_1 f_2 f_3 f_4 f_5 f_6 f_7 f_8 f_9 f_10 f_11 f_12 f_13 f_14 f_15 f_16 f_17 f_18 f_19 f_20 f_21 f_22 f_23 f_24 f_25 f_26 f_27 f_28 f_29 f_30 f_31 f_32 f_33 f_34 : Addr} {t_MOST_KEEPERS t_MOST_STATES t_MOST_VALUES : Tok} {C_FooledRuns C_Keeping : Addr}
    {od_0 an_0 : Option Addr} {sl_0 : Array (Option Value)} {oc_0 kV_0 dc_0 pm_0 cd_0 ct_0 : Value}
    {od_1 an_1 : Option Addr} {sl_1 : Array (Option Value)} {oc_1 kV_1 dc_1 pm_1 cd_1 ct_1 : Value}
    {tT_1 : Addr} {ocT_1 : Value} {odT_1 : Option Addr} {slT_1 : Array (Option Value)} {nT_1 : Nat}
    {od_2 an_2 : Option Addr} {sl_2 : Array (Option Value)} {oc_2 kV_2 dc_2 pm_2 cd_2 ct_2 : Value}
    {od_3 an_3 : Option Addr} {sl_3 : Array (Option Value)} {oc_3 kV_3 dc_3 pm_3 cd_3 ct_3 : Value}
    {od_4 an_4 : Option Addr} {sl_4 : Array (Option Value)} {oc_4 kV_4 dc_4 pm_4 cd_4 ct_4 : Value}
    {od_5 an_5 : Option Addr} {sl_5 : Array (Option Value)} {oc_5 kV_5 dc_5 pm_5 cd_5 ct_5 : Value}
    {od_6 an_6 : Option Addr} {sl_6 : Array (Option Value)} {oc_6 kV_6 dc_6 pm_6 cd_6 ct_6 : Value}
    {od_7 an_7 : Option Addr} {sl_7 : Array (Option Value)} {oc_7 kV_7 dc_7 pm_7 cd_7 ct_7 : Value}
    {od_8 an_8 : Option Addr} {sl_8 : Array (Option Value)} {oc_8 kV_8 dc_8 pm_8 cd_8 ct_8 : Value}
    {od_9 an_9 : Option Addr} {sl_9 : Array (Option Value)} {oc_9 kV_9 dc_9 pm_9 cd_9 ct_9 : Value}
    {od_10 an_10 : Option Addr} {sl_10 : Array (Option Value)} {oc_10 kV_10 dc_10 pm_10 cd_10 ct_10 : Value}
    {od_11 an_11 : Option Addr} {sl_11 : Array (Option Value)} {oc_11 kV_11 dc_11 pm_11 cd_11 ct_11 : Value}
    {od_12 an_12 : Option Addr} {sl_12 : Array (Option Value)} {oc_12 kV_12 dc_12 pm_12 cd_12 ct_12 : Value}
    {od_13 an_13 : Option Addr} {sl_13 : Array (Option Value)} {oc_13 kV_13 dc_13 pm_13 cd_13 ct_13 : Value}
    {od_14 an_14 : Option Addr} {sl_14 : Array (Option Value)} {oc_14 kV_14 dc_14 pm_14 cd_14 ct_14 : Value}
    {od_15 an_15 : Option Addr} {sl_15 : Array (Option Value)} {oc_15 kV_15 dc_15 pm_15 cd_15 ct_15 : Value}
    {od_16 an_16 : Option Addr} {sl_16 : Array (Option Value)} {oc_16 kV_16 dc_16 pm_16 cd_16 ct_16 : Value}
    {od_17 an_17 : Option Addr} {sl_17 : Array (Option Value)} {oc_17 kV_17 dc_17 pm_17 cd_17 ct_17 : Value}
    {od_18 an_18 : Option Addr} {sl_18 : Array (Option Value)} {oc_18 kV_18 dc_18 pm_18 cd_18 ct_18 : Value}
    {od_19 an_19 : Option Addr} {sl_19 : Array (Option Value)} {oc_19 kV_19 dc_19 pm_19 cd_19 ct_19 : Value}
    {od_20 an_20 : Option Addr} {sl_20 : Array (Option Value)} {oc_20 kV_20 dc_20 pm_20 cd_20 ct_20 : Value}
    {od_21 an_21 : Option Addr} {sl_21 : Array (Option Value)} {oc_21 kV_21 dc_21 pm_21 cd_21 ct_21 : Value}
    {od_22 an_22 : Option Addr} {sl_22 : Array (Option Value)} {oc_22 kV_22 dc_22 pm_22 cd_22 ct_22 : Value}
    {od_23 an_23 : Option Addr} {sl_23 : Array (Option Value)} {oc_23 kV_23 dc_23 pm_23 cd_23 ct_23 : Value}
    {od_24 an_24 : Option Addr} {sl_24 : Array (Option Value)} {oc_24 kV_24 dc_24 pm_24 cd_24 ct_24 : Value}
    {od_25 an_25 : Option Addr} {sl_25 : Array (Option Value)} {oc_25 kV_25 dc_25 pm_25 cd_25 ct_25 : Value}
    {od_26 an_26 : Option Addr} {sl_26 : Array (Option Value)} {oc_26 kV_26 dc_26 pm_26 cd_26 ct_26 : Value}
    {od_27 an_27 : Option Addr} {sl_27 : Array (Option Value)} {oc_27 kV_27 dc_27 pm_27 cd_27 ct_27 : Value}
    {od_28 an_28 : Option Addr} {sl_28 : Array (Option Value)} {oc_28 kV_28 dc_28 pm_28 cd_28 ct_28 : Value}
    {od_29 an_29 : Option Addr} {sl_29 : Array (Option Value)} {oc_29 kV_29 dc_29 pm_29 cd_29 ct_29 : Value}
    {od_30 an_30 : Option Addr} {sl_30 : Array (Option Value)} {oc_30 kV_30 dc_30 pm_30 cd_30 ct_30 : Value}
    {od_31 an_31 : Option Addr} {sl_31 : Array (Option Value)} {oc_31 kV_31 dc_31 pm_31 cd_31 ct_31 : Value}
    {od_32 an_32 : Option Addr} {sl_32 : Array (Option Value)} {oc_32 kV_32 dc_32 pm_32 cd_32 ct_32 : Value}
    {od_33 an_33 : Option Addr} {sl_33 : Array (Option Value)} {oc_33 kV_33 dc_33 pm_33 cd_33 ct_33 : Value}
    {od_34 an_34 : Option Addr} {sl_34 : Array (Option Value)} {oc_34 kV_34 dc_34 pm_34 cd_34 ct_34 : Value}
    (z_abs : PySem.W.nsIn K mainGlobals "abs" = some none)
    (z_all : PySem.W.nsIn K mainGlobals "all" = some none)
    (z_bool : PySem.W.nsIn K mainGlobals "bool" = some none)
    (z_enumerate : PySem.W.nsIn K mainGlobals "enumerate" = some none)
    (z_int : PySem.W.nsIn K mainGlobals "int" = some none)
    (z_isinstance : PySem.W.nsIn K mainGlobals "isinstance" = some none)
    (z_len : PySem.W.nsIn K mainGlobals "len" = some none)
    (z_list : PySem.W.nsIn K mainGlobals "list" = some none)
    (z_max : PySem.W.nsIn K mainGlobals "max" = some none)
    (z_range : PySem.W.nsIn K mainGlobals "range" = some none)
    (z_set : PySem.W.nsIn K mainGlobals "set" = some none)
    (z_sorted : PySem.W.nsIn K mainGlobals "sorted" = some none)
    (z_str : PySem.W.nsIn K mainGlobals "str" = some none)
    (z_tuple : PySem.W.nsIn K mainGlobals "tuple" = some none)
    (z_zip : PySem.W.nsIn K mainGlobals "zip" = some none)
    (g_MOST_KEEPERS : PySem.W.nsIn K mainGlobals "MOST_KEEPERS" = some (some (.int 12 t_MOST_KEEPERS)))
    (g_MOST_STATES : PySem.W.nsIn K mainGlobals "MOST_STATES" = some (some (.int 12 t_MOST_STATES)))
    (g_MOST_VALUES : PySem.W.nsIn K mainGlobals "MOST_VALUES" = some (some (.int 128 t_MOST_VALUES)))
    (aC_FooledRuns : PySem.W.nsIn K mainGlobals "FooledRuns" = some (some (.ref C_FooledRuns)))
    (pg_FooledRuns : PySem.W.plainGet K C_FooledRuns Str.empty = true)
    (hd_FooledRuns : PySem.W.hasDictIn K C_FooledRuns = true)
    (po_FooledRuns : PySem.W.plainOver K C_FooledRuns = true)
    (sa_FooledRuns : PySem.W.findIn K (.ref C_FooledRuns) "__setattr__" = some (some (.builtin "object.__setattr__")))
    (mk_FooledRuns : PySem.W.makesIn K C_FooledRuns = true)
    (kc_FooledRuns : PySem.W.keepIn K (.ref C_FooledRuns) = true)
    (n_FooledRuns_one : PySem.W.findIn K (.ref C_FooledRuns) "one" = some none)
    (n_FooledRuns_other : PySem.W.findIn K (.ref C_FooledRuns) "other" = some none)
    (n_FooledRuns_liars : PySem.W.findIn K (.ref C_FooledRuns) "liars" = some none)
    (n_FooledRuns_others : PySem.W.findIn K (.ref C_FooledRuns) "others" = some none)
    (n_FooledRuns_shown : PySem.W.findIn K (.ref C_FooledRuns) "shown" = some none)
    (aC_Keeping : PySem.W.nsIn K mainGlobals "Keeping" = some (some (.ref C_Keeping)))
    (pg_Keeping : PySem.W.plainGet K C_Keeping Str.empty = true)
    (hd_Keeping : PySem.W.hasDictIn K C_Keeping = true)
    (po_Keeping : PySem.W.plainOver K C_Keeping = true)
    (sa_Keeping : PySem.W.findIn K (.ref C_Keeping) "__setattr__" = some (some (.builtin "object.__setattr__")))
    (mk_Keeping : PySem.W.makesIn K C_Keeping = true)
    (kc_Keeping : PySem.W.keepIn K (.ref C_Keeping) = true)
    (n_Keeping_states : PySem.W.findIn K (.ref C_Keeping) "states" = some none)
    (n_Keeping_rows : PySem.W.findIn K (.ref C_Keeping) "rows" = some none)
    (is_f2 : PySem.W.specialIn K (.builtin "object.__class__") "__get__" = some (some (.builtin "getset_descriptor.__get__")))
    (is_f3 : PySem.W.takesIn K (.builtin "object.__class__") = some true)
    (is_f1_FooledRuns : PySem.W.findIn K (.ref C_FooledRuns) "__class__" = some (some (.builtin "object.__class__")))
    (is_f4_FooledRuns : PySem.W.mroIn K C_FooledRuns (.type "object") = some true)
    (is_u_FooledRuns_int : PySem.W.mroIn K C_FooledRuns (.type "int") = some false)
    (is_u_FooledRuns_bool : PySem.W.mroIn K C_FooledRuns (.type "bool") = some false)
    (is_u_FooledRuns_str : PySem.W.mroIn K C_FooledRuns (.type "str") = some false)
    (is_u_FooledRuns_tuple : PySem.W.mroIn K C_FooledRuns (.type "tuple") = some false)
    (is_u_FooledRuns_list : PySem.W.mroIn K C_FooledRuns (.type "list") = some false)
    (is_f1_Keeping : PySem.W.findIn K (.ref C_Keeping) "__class__" = some (some (.builtin "object.__class__")))
    (is_f4_Keeping : PySem.W.mroIn K C_Keeping (.type "object") = some true)
    (is_u_Keeping_int : PySem.W.mroIn K C_Keeping (.type "int") = some false)
    (is_u_Keeping_bool : PySem.W.mroIn K C_Keeping (.type "bool") = some false)
    (is_u_Keeping_str : PySem.W.mroIn K C_Keeping (.type "str") = some false)
    (is_u_Keeping_tuple : PySem.W.mroIn K C_Keeping (.type "tuple") = some false)
    (is_u_Keeping_list : PySem.W.mroIn K C_Keeping (.type "list") = some false)
    (is_z_FooledRuns : PySem.W.typeIn K (.ref C_FooledRuns) = some (.type "type"))
    (is_y_FooledRuns : PySem.W.subIn K (.ref C_FooledRuns) (.ref C_FooledRuns) = some true)
    (is_p_Keeping_FooledRuns : PySem.W.subIn K (.ref C_Keeping) (.ref C_FooledRuns) = some false)
    (is_z_Keeping : PySem.W.typeIn K (.ref C_Keeping) = some (.type "type"))
    (is_y_Keeping : PySem.W.subIn K (.ref C_Keeping) (.ref C_Keeping) = some true)
    (is_p_FooledRuns_Keeping : PySem.W.subIn K (.ref C_FooledRuns) (.ref C_Keeping) = some false)
    (a_0 : PySem.W.nsIn K mainGlobals "is_integer" = some (some (.ref f_0)))
    (l_0 : K.lookup f_0 = some ⟨oc_0, od_0, .func (PySem.W.fnOf "is_integer" "is_integer" (defArgs s_is_integer) (defBody s_is_integer) (defScope s_is_integer) .none kV_0 dc_0 pm_0 an_0 cd_0 ct_0), sl_0⟩)
    (c_0 : PySem.W.codeIn K cd_0 "is_integer" = true)
    (k_0 : PySem.W.keepIn K (.ref f_0) = true)
    (a_1 : PySem.W.nsIn K mainGlobals "is_number" = some (some (.ref f_1)))
    (l_1 : K.lookup f_1 = some ⟨oc_1, od_1, .func (PySem.W.fnOf "is_number" "is_number" (defArgs s_is_number) (defBody s_is_number) (defScope s_is_number) (.ref tT_1) kV_1 dc_1 pm_1 an_1 cd_1 ct_1), sl_1⟩)
    (c_1 : PySem.W.codeIn K cd_1 "is_number" = true)
    (k_1 : PySem.W.keepIn K (.ref f_1) = true)
    (t_1 : K.lookup tT_1 = some ⟨ocT_1, odT_1, .seq ([.none] : List Value).toArray nT_1, slT_1⟩)
    (a_2 : PySem.W.nsIn K mainGlobals "is_sequence" = some (some (.ref f_2)))
    (l_2 : K.lookup f_2 = some ⟨oc_2, od_2, .func (PySem.W.fnOf "is_sequence" "is_sequence" (defArgs s_is_sequence) (defBody s_is_sequence) (defScope s_is_sequence) .none kV_2 dc_2 pm_2 an_2 cd_2 ct_2), sl_2⟩)
    (c_2 : PySem.W.codeIn K cd_2 "is_sequence" = true)
    (k_2 : PySem.W.keepIn K (.ref f_2) = true)
    (a_3 : PySem.W.nsIn K mainGlobals "is_ascending" = some (some (.ref f_3)))
    (l_3 : K.lookup f_3 = some ⟨oc_3, od_3, .func (PySem.W.fnOf "is_ascending" "is_ascending" (defArgs s_is_ascending) (defBody s_is_ascending) (defScope s_is_ascending) .none kV_3 dc_3 pm_3 an_3 cd_3 ct_3), sl_3⟩)
    (c_3 : PySem.W.codeIn K cd_3 "is_ascending" = true)
    (k_3 : PySem.W.keepIn K (.ref f_3) = true)
    (a_4 : PySem.W.nsIn K mainGlobals "lot_of" = some (some (.ref f_4)))
    (l_4 : K.lookup f_4 = some ⟨oc_4, od_4, .func (PySem.W.fnOf "lot_of" "lot_of" (defArgs s_lot_of) (defBody s_lot_of) (defScope s_lot_of) .none kV_4 dc_4 pm_4 an_4 cd_4 ct_4), sl_4⟩)
    (c_4 : PySem.W.codeIn K cd_4 "lot_of" = true)
    (k_4 : PySem.W.keepIn K (.ref f_4) = true)
    (a_5 : PySem.W.nsIn K mainGlobals "is_state_row" = some (some (.ref f_5)))
    (l_5 : K.lookup f_5 = some ⟨oc_5, od_5, .func (PySem.W.fnOf "is_state_row" "is_state_row" (defArgs s_is_state_row) (defBody s_is_state_row) (defScope s_is_state_row) .none kV_5 dc_5 pm_5 an_5 cd_5 ct_5), sl_5⟩)
    (c_5 : PySem.W.codeIn K cd_5 "is_state_row" = true)
    (k_5 : PySem.W.keepIn K (.ref f_5) = true)
    (a_6 : PySem.W.findIn K (.ref C_Keeping) "__init__" = some (some (.ref f_6)))
    (i_6 : PySem.W.isFn K (.ref f_6) = true)
    (l_6 : K.lookup f_6 = some ⟨oc_6, od_6, .func (PySem.W.fnOf "__init__" "Keeping.__init__" (defArgs s_Keeping_init) (defBody s_Keeping_init) (defScope s_Keeping_init) .none kV_6 dc_6 pm_6 an_6 cd_6 ct_6), sl_6⟩)
    (c_6 : PySem.W.codeIn K cd_6 "Keeping.__init__" = true)
    (k_6 : PySem.W.keepIn K (.ref f_6) = true)
    (a_7 : PySem.W.nsIn K mainGlobals "unlike_at" = some (some (.ref f_7)))
    (l_7 : K.lookup f_7 = some ⟨oc_7, od_7, .func (PySem.W.fnOf "unlike_at" "unlike_at" (defArgs s_unlike_at) (defBody s_unlike_at) (defScope s_unlike_at) .none kV_7 dc_7 pm_7 an_7 cd_7 ct_7), sl_7⟩)
    (c_7 : PySem.W.codeIn K cd_7 "unlike_at" = true)
    (k_7 : PySem.W.keepIn K (.ref f_7) = true)
    (a_8 : PySem.W.nsIn K mainGlobals "twins" = some (some (.ref f_8)))
    (l_8 : K.lookup f_8 = some ⟨oc_8, od_8, .func (PySem.W.fnOf "twins" "twins" (defArgs s_twins) (defBody s_twins) (defScope s_twins) .none kV_8 dc_8 pm_8 an_8 cd_8 ct_8), sl_8⟩)
    (c_8 : PySem.W.codeIn K cd_8 "twins" = true)
    (k_8 : PySem.W.keepIn K (.ref f_8) = true)
    (a_9 : PySem.W.nsIn K mainGlobals "least_unlike" = some (some (.ref f_9)))
    (l_9 : K.lookup f_9 = some ⟨oc_9, od_9, .func (PySem.W.fnOf "least_unlike" "least_unlike" (defArgs s_least_unlike) (defBody s_least_unlike) (defScope s_least_unlike) .none kV_9 dc_9 pm_9 an_9 cd_9 ct_9), sl_9⟩)
    (c_9 : PySem.W.codeIn K cd_9 "least_unlike" = true)
    (k_9 : PySem.W.keepIn K (.ref f_9) = true)
    (a_10 : PySem.W.nsIn K mainGlobals "lies_needed" = some (some (.ref f_10)))
    (l_10 : K.lookup f_10 = some ⟨oc_10, od_10, .func (PySem.W.fnOf "lies_needed" "lies_needed" (defArgs s_lies_needed) (defBody s_lies_needed) (defScope s_lies_needed) .none kV_10 dc_10 pm_10 an_10 cd_10 ct_10), sl_10⟩)
    (c_10 : PySem.W.codeIn K cd_10 "lies_needed" = true)
    (k_10 : PySem.W.keepIn K (.ref f_10) = true)
    (a_11 : PySem.W.nsIn K mainGlobals "is_readable" = some (some (.ref f_11)))
    (l_11 : K.lookup f_11 = some ⟨oc_11, od_11, .func (PySem.W.fnOf "is_readable" "is_readable" (defArgs s_is_readable) (defBody s_is_readable) (defScope s_is_readable) .none kV_11 dc_11 pm_11 an_11 cd_11 ct_11), sl_11⟩)
    (c_11 : PySem.W.codeIn K cd_11 "is_readable" = true)
    (k_11 : PySem.W.keepIn K (.ref f_11) = true)
    (a_12 : PySem.W.nsIn K mainGlobals "lies_in" = some (some (.ref f_12)))
    (l_12 : K.lookup f_12 = some ⟨oc_12, od_12, .func (PySem.W.fnOf "lies_in" "lies_in" (defArgs s_lies_in) (defBody s_lies_in) (defScope s_lies_in) .none kV_12 dc_12 pm_12 an_12 cd_12 ct_12), sl_12⟩)
    (c_12 : PySem.W.codeIn K cd_12 "lies_in" = true)
    (k_12 : PySem.W.keepIn K (.ref f_12) = true)
    (a_13 : PySem.W.nsIn K mainGlobals "readings" = some (some (.ref f_13)))
    (l_13 : K.lookup f_13 = some ⟨oc_13, od_13, .func (PySem.W.fnOf "readings" "readings" (defArgs s_readings) (defBody s_readings) (defScope s_readings) .none kV_13 dc_13 pm_13 an_13 cd_13 ct_13), sl_13⟩)
    (c_13 : PySem.W.codeIn K cd_13 "readings" = true)
    (k_13 : PySem.W.keepIn K (.ref f_13) = true)
    (a_14 : PySem.W.nsIn K mainGlobals "only_reading" = some (some (.ref f_14)))
    (l_14 : K.lookup f_14 = some ⟨oc_14, od_14, .func (PySem.W.fnOf "only_reading" "only_reading" (defArgs s_only_reading) (defBody s_only_reading) (defScope s_only_reading) .none kV_14 dc_14 pm_14 an_14 cd_14 ct_14), sl_14⟩)
    (c_14 : PySem.W.codeIn K cd_14 "only_reading" = true)
    (k_14 : PySem.W.keepIn K (.ref f_14) = true)
    (a_15 : PySem.W.nsIn K mainGlobals "crowded" = some (some (.ref f_15)))
    (l_15 : K.lookup f_15 = some ⟨oc_15, od_15, .func (PySem.W.fnOf "crowded" "crowded" (defArgs s_crowded) (defBody s_crowded) (defScope s_crowded) .none kV_15 dc_15 pm_15 an_15 cd_15 ct_15), sl_15⟩)
    (c_15 : PySem.W.codeIn K cd_15 "crowded" = true)
    (k_15 : PySem.W.keepIn K (.ref f_15) = true)
    (a_16 : PySem.W.findIn K (.ref C_FooledRuns) "__init__" = some (some (.ref f_16)))
    (i_16 : PySem.W.isFn K (.ref f_16) = true)
    (l_16 : K.lookup f_16 = some ⟨oc_16, od_16, .func (PySem.W.fnOf "__init__" "FooledRuns.__init__" (defArgs s_FooledRuns_init) (defBody s_FooledRuns_init) (defScope s_FooledRuns_init) .none kV_16 dc_16 pm_16 an_16 cd_16 ct_16), sl_16⟩)
    (c_16 : PySem.W.codeIn K cd_16 "FooledRuns.__init__" = true)
    (k_16 : PySem.W.keepIn K (.ref f_16) = true)
    (a_17 : PySem.W.nsIn K mainGlobals "shown_alike" = some (some (.ref f_17)))
    (l_17 : K.lookup f_17 = some ⟨oc_17, od_17, .func (PySem.W.fnOf "shown_alike" "shown_alike" (defArgs s_shown_alike) (defBody s_shown_alike) (defScope s_shown_alike) .none kV_17 dc_17 pm_17 an_17 cd_17 ct_17), sl_17⟩)
    (c_17 : PySem.W.codeIn K cd_17 "shown_alike" = true)
    (k_17 : PySem.W.keepIn K (.ref f_17) = true)
    (a_18 : PySem.W.nsIn K mainGlobals "fooled_runs" = some (some (.ref f_18)))
    (l_18 : K.lookup f_18 = some ⟨oc_18, od_18, .func (PySem.W.fnOf "fooled_runs" "fooled_runs" (defArgs s_fooled_runs) (defBody s_fooled_runs) (defScope s_fooled_runs) .none kV_18 dc_18 pm_18 an_18 cd_18 ct_18), sl_18⟩)
    (c_18 : PySem.W.codeIn K cd_18 "fooled_runs" = true)
    (k_18 : PySem.W.keepIn K (.ref f_18) = true)
    (a_19 : PySem.W.nsIn K mainGlobals "is_shown" = some (some (.ref f_19)))
    (l_19 : K.lookup f_19 = some ⟨oc_19, od_19, .func (PySem.W.fnOf "is_shown" "is_shown" (defArgs s_is_shown) (defBody s_is_shown) (defScope s_is_shown) .none kV_19 dc_19 pm_19 an_19 cd_19 ct_19), sl_19⟩)
    (c_19 : PySem.W.codeIn K cd_19 "is_shown" = true)
    (k_19 : PySem.W.keepIn K (.ref f_19) = true)
    (a_20 : PySem.W.nsIn K mainGlobals "are_states" = some (some (.ref f_20)))
    (l_20 : K.lookup f_20 = some ⟨oc_20, od_20, .func (PySem.W.fnOf "are_states" "are_states" (defArgs s_are_states) (defBody s_are_states) (defScope s_are_states) .none kV_20 dc_20 pm_20 an_20 cd_20 ct_20), sl_20⟩)
    (c_20 : PySem.W.codeIn K cd_20 "are_states" = true)
    (k_20 : PySem.W.keepIn K (.ref f_20) = true)
    (a_21 : PySem.W.nsIn K mainGlobals "are_fooled_runs" = some (some (.ref f_21)))
    (l_21 : K.lookup f_21 = some ⟨oc_21, od_21, .func (PySem.W.fnOf "are_fooled_runs" "are_fooled_runs" (defArgs s_are_fooled_runs) (defBody s_are_fooled_runs) (defScope s_are_fooled_runs) .none kV_21 dc_21 pm_21 an_21 cd_21 ct_21), sl_21⟩)
    (c_21 : PySem.W.codeIn K cd_21 "are_fooled_runs" = true)
    (k_21 : PySem.W.keepIn K (.ref f_21) = true)
    (a_22 : PySem.W.nsIn K mainGlobals "_law_heap" = some (some (.ref f_22)))
    (l_22 : K.lookup f_22 = some ⟨oc_22, od_22, .func (PySem.W.fnOf "_law_heap" "_law_heap" (defArgs s__law_heap) (defBody s__law_heap) (defScope s__law_heap) .none kV_22 dc_22 pm_22 an_22 cd_22 ct_22), sl_22⟩)
    (c_22 : PySem.W.codeIn K cd_22 "_law_heap" = true)
    (k_22 : PySem.W.keepIn K (.ref f_22) = true)
    (a_23 : PySem.W.nsIn K mainGlobals "_law_draw" = some (some (.ref f_23)))
    (l_23 : K.lookup f_23 = some ⟨oc_23, od_23, .func (PySem.W.fnOf "_law_draw" "_law_draw" (defArgs s__law_draw) (defBody s__law_draw) (defScope s__law_draw) .none kV_23 dc_23 pm_23 an_23 cd_23 ct_23), sl_23⟩)
    (c_23 : PySem.W.codeIn K cd_23 "_law_draw" = true)
    (k_23 : PySem.W.keepIn K (.ref f_23) = true)
    (a_24 : PySem.W.nsIn K mainGlobals "_law_pick" = some (some (.ref f_24)))
    (l_24 : K.lookup f_24 = some ⟨oc_24, od_24, .func (PySem.W.fnOf "_law_pick" "_law_pick" (defArgs s__law_pick) (defBody s__law_pick) (defScope s__law_pick) .none kV_24 dc_24 pm_24 an_24 cd_24 ct_24), sl_24⟩)
    (c_24 : PySem.W.codeIn K cd_24 "_law_pick" = true)
    (k_24 : PySem.W.keepIn K (.ref f_24) = true)
    (a_25 : PySem.W.nsIn K mainGlobals "_law_mixed" = some (some (.ref f_25)))
    (l_25 : K.lookup f_25 = some ⟨oc_25, od_25, .func (PySem.W.fnOf "_law_mixed" "_law_mixed" (defArgs s__law_mixed) (defBody s__law_mixed) (defScope s__law_mixed) .none kV_25 dc_25 pm_25 an_25 cd_25 ct_25), sl_25⟩)
    (c_25 : PySem.W.codeIn K cd_25 "_law_mixed" = true)
    (k_25 : PySem.W.keepIn K (.ref f_25) = true)
    (a_26 : PySem.W.nsIn K mainGlobals "_law_like" = some (some (.ref f_26)))
    (l_26 : K.lookup f_26 = some ⟨oc_26, od_26, .func (PySem.W.fnOf "_law_like" "_law_like" (defArgs s__law_like) (defBody s__law_like) (defScope s__law_like) .none kV_26 dc_26 pm_26 an_26 cd_26 ct_26), sl_26⟩)
    (c_26 : PySem.W.codeIn K cd_26 "_law_like" = true)
    (k_26 : PySem.W.keepIn K (.ref f_26) = true)
    (a_27 : PySem.W.nsIn K mainGlobals "_law_rows" = some (some (.ref f_27)))
    (l_27 : K.lookup f_27 = some ⟨oc_27, od_27, .func (PySem.W.fnOf "_law_rows" "_law_rows" (defArgs s__law_rows) (defBody s__law_rows) (defScope s__law_rows) .none kV_27 dc_27 pm_27 an_27 cd_27 ct_27), sl_27⟩)
    (c_27 : PySem.W.codeIn K cd_27 "_law_rows" = true)
    (k_27 : PySem.W.keepIn K (.ref f_27) = true)
    (a_28 : PySem.W.nsIn K mainGlobals "_law_least" = some (some (.ref f_28)))
    (l_28 : K.lookup f_28 = some ⟨oc_28, od_28, .func (PySem.W.fnOf "_law_least" "_law_least" (defArgs s__law_least) (defBody s__law_least) (defScope s__law_least) .none kV_28 dc_28 pm_28 an_28 cd_28 ct_28), sl_28⟩)
    (c_28 : PySem.W.codeIn K cd_28 "_law_least" = true)
    (k_28 : PySem.W.keepIn K (.ref f_28) = true)
    (a_29 : PySem.W.nsIn K mainGlobals "_law_is_lot" = some (some (.ref f_29)))
    (l_29 : K.lookup f_29 = some ⟨oc_29, od_29, .func (PySem.W.fnOf "_law_is_lot" "_law_is_lot" (defArgs s__law_is_lot) (defBody s__law_is_lot) (defScope s__law_is_lot) .none kV_29 dc_29 pm_29 an_29 cd_29 ct_29), sl_29⟩)
    (c_29 : PySem.W.codeIn K cd_29 "_law_is_lot" = true)
    (k_29 : PySem.W.keepIn K (.ref f_29) = true)
    (a_30 : PySem.W.nsIn K mainGlobals "_law_is" = some (some (.ref f_30)))
    (l_30 : K.lookup f_30 = some ⟨oc_30, od_30, .func (PySem.W.fnOf "_law_is" "_law_is" (defArgs s__law_is) (defBody s__law_is) (defScope s__law_is) .none kV_30 dc_30 pm_30 an_30 cd_30 ct_30), sl_30⟩)
    (c_30 : PySem.W.codeIn K cd_30 "_law_is" = true)
    (k_30 : PySem.W.keepIn K (.ref f_30) = true)
    (a_31 : PySem.W.nsIn K mainGlobals "_law_bent" = some (some (.ref f_31)))
    (l_31 : K.lookup f_31 = some ⟨oc_31, od_31, .func (PySem.W.fnOf "_law_bent" "_law_bent" (defArgs s__law_bent) (defBody s__law_bent) (defScope s__law_bent) .none kV_31 dc_31 pm_31 an_31 cd_31 ct_31), sl_31⟩)
    (c_31 : PySem.W.codeIn K cd_31 "_law_bent" = true)
    (k_31 : PySem.W.keepIn K (.ref f_31) = true)
    (a_32 : PySem.W.nsIn K mainGlobals "_law_right" = some (some (.ref f_32)))
    (l_32 : K.lookup f_32 = some ⟨oc_32, od_32, .func (PySem.W.fnOf "_law_right" "_law_right" (defArgs s__law_right) (defBody s__law_right) (defScope s__law_right) .none kV_32 dc_32 pm_32 an_32 cd_32 ct_32), sl_32⟩)
    (c_32 : PySem.W.codeIn K cd_32 "_law_right" = true)
    (k_32 : PySem.W.keepIn K (.ref f_32) = true)
    (a_33 : PySem.W.nsIn K mainGlobals "_law_crowd_right" = some (some (.ref f_33)))
    (l_33 : K.lookup f_33 = some ⟨oc_33, od_33, .func (PySem.W.fnOf "_law_crowd_right" "_law_crowd_right" (defArgs s__law_crowd_right) (defBody s__law_crowd_right) (defScope s__law_crowd_right) .none kV_33 dc_33 pm_33 an_33 cd_33 ct_33), sl_33⟩)
    (c_33 : PySem.W.codeIn K cd_33 "_law_crowd_right" = true)
    (k_33 : PySem.W.keepIn K (.ref f_33) = true)
    (a_34 : PySem.W.nsIn K mainGlobals "law" = some (some (.ref f_34)))
    (l_34 : K.lookup f_34 = some ⟨oc_34, od_34, .func (PySem.W.fnOf "law" "law" (defArgs s_law) (defBody s_law) (defScope s_law) .none kV_34 dc_34 pm_34 an_34 cd_34 ct_34), sl_34⟩)
    (c_34 : PySem.W.codeIn K cd_34 "law" = true)
    (k_34 : PySem.W.keepIn K (.ref f_34) = true)
    : ∃ fd : FuncData, (∀ (s : Shared) (v : Value), BindsTo s fd ⟨[v], []⟩ [("script", v)]) ∧ ∀ base : Heap, K.In base → base.Ns mainGlobals mg → FnOk l.prog w K mg base CX0 7 fa fd ["script"] (Vl.sp_law K) := by
  have e := hfa.symm.trans (PySem.W.mg_of X G a_34)
  cases e
  have F_is_integer := fun_mk (st := s_is_integer) l_0 c_0 k_0
  have b_is_integer := F_is_integer.binds (ps := ["value"]) fun _ _ _ _ _ _ us hl => match us, hl with | [_], _ => rfl
  have F_is_number : FunD K "is_number" "is_number" (defArgs s_is_number) (defBody s_is_number) (defScope s_is_number) [.non] [] f_1 _ := ⟨⟨_, _, _, _, _, _, _, _, _, _, rfl, l_1, c_1, .inr ⟨by simp, _, _, _, _, rfl, t_1, rfl, .cons rfl (.nil)⟩, .inl rfl⟩, k_1⟩
  obtain ⟨ds_is_number_0, hds_is_number_0, b_is_number_0⟩ := F_is_number.binds1 (ps := ["value", "most"]) 2 1 (by simp) (by rfl) (fun _ _ _ _ _ _ _ us its hl hi => match us, its, hl, hi with | [_, _], [_], _, _ => ⟨_, rfl, rfl⟩)
  cases hds_is_number_0
  have b_is_number := b_is_number_0
  have F_is_sequence := fun_mk (st := s_is_sequence) l_2 c_2 k_2
  have b_is_sequence := F_is_sequence.binds (ps := ["value"]) fun _ _ _ _ _ _ us hl => match us, hl with | [_], _ => rfl
  have F_is_ascending := fun_mk (st := s_is_ascending) l_3 c_3 k_3
  have b_is_ascending := F_is_ascending.binds (ps := ["row"]) fun _ _ _ _ _ _ us hl => match us, hl with | [_], _ => rfl
  have F_lot_of := fun_mk (st := s_lot_of) l_4 c_4 k_4
  have b_lot_of := F_lot_of.binds (ps := ["value", "many"]) fun _ _ _ _ _ _ us hl => match us, hl with | [_, _], _ => rfl
  have F_is_state_row := fun_mk (st := s_is_state_row) l_5 c_5 k_5
  have b_is_state_row := F_is_state_row.binds (ps := ["states", "rows", "row"]) fun _ _ _ _ _ _ us hl => match us, hl with | [_, _, _], _ => rfl
  have F_Keeping_init := fun_mk (st := s_Keeping_init) l_6 c_6 k_6
  have b_Keeping_init := F_Keeping_init.binds (ps := ["self", "states", "rows"]) fun _ _ _ _ _ _ us hl => match us, hl with | [_, _, _], _ => rfl
  have F_unlike_at := fun_mk (st := s_unlike_at) l_7 c_7 k_7
  have b_unlike_at := F_unlike_at.binds (ps := ["keeping", "one", "other", "houses"]) fun _ _ _ _ _ _ us hl => match us, hl with | [_, _, _, _], _ => rfl
  have F_twins := fun_mk (st := s_twins) l_8 c_8 k_8
  have b_twins := F_twins.binds (ps := ["keeping", "houses"]) fun _ _ _ _ _ _ us hl => match us, hl with | [_, _], _ => rfl
  have F_least_unlike := fun_mk (st := s_least_unlike) l_9 c_9 k_9
  have b_least_unlike := F_least_unlike.binds (ps := ["keeping", "houses"]) fun _ _ _ _ _ _ us hl => match us, hl with | [_, _], _ => rfl
  have F_lies_needed := fun_mk (st := s_lies_needed) l_10 c_10 k_10
  have b_lies_needed := F_lies_needed.binds (ps := ["f", "is_signed"]) fun _ _ _ _ _ _ us hl => match us, hl with | [_, _], _ => rfl
  have F_is_readable := fun_mk (st := s_is_readable) l_11 c_11 k_11
  have b_is_readable := F_is_readable.binds (ps := ["keeping", "houses", "f", "is_signed"]) fun _ _ _ _ _ _ us hl => match us, hl with | [_, _, _, _], _ => rfl
  have F_lies_in := fun_mk (st := s_lies_in) l_12 c_12 k_12
  have b_lies_in := F_lies_in.binds (ps := ["keeping", "value", "houses", "shown", "is_signed"]) fun _ _ _ _ _ _ us hl => match us, hl with | [_, _, _, _, _], _ => rfl
  have F_readings := fun_mk (st := s_readings) l_13 c_13 k_13
  have b_readings := F_readings.binds (ps := ["keeping", "houses", "shown", "f", "is_signed"]) fun _ _ _ _ _ _ us hl => match us, hl with | [_, _, _, _, _], _ => rfl
  have F_only_reading := fun_mk (st := s_only_reading) l_14 c_14 k_14
  have b_only_reading := F_only_reading.binds (ps := ["keeping", "houses", "shown", "f", "is_signed"]) fun _ _ _ _ _ _ us hl => match us, hl with | [_, _, _, _, _], _ => rfl
  have F_crowded := fun_mk (st := s_crowded) l_15 c_15 k_15
  have b_crowded := F_crowded.binds (ps := ["keeping", "houses"]) fun _ _ _ _ _ _ us hl => match us, hl with | [_, _], _ => rfl
  have F_FooledRuns_init := fun_mk (st := s_FooledRuns_init) l_16 c_16 k_16
  have b_FooledRuns_init := F_FooledRuns_init.binds (ps := ["self", "one", "other", "liars", "others", "shown"]) fun _ _ _ _ _ _ us hl => match us, hl with | [_, _, _, _, _, _], _ => rfl
  have F_shown_alike := fun_mk (st := s_shown_alike) l_17 c_17 k_17
  have b_shown_alike := F_shown_alike.binds (ps := ["keeping", "one", "other", "houses", "liars", "others", "is_signed"]) fun _ _ _ _ _ _ us hl => match us, hl with | [_, _, _, _, _, _, _], _ => rfl
  have F_fooled_runs := fun_mk (st := s_fooled_runs) l_18 c_18 k_18
  have b_fooled_runs := F_fooled_runs.binds (ps := ["keeping", "houses", "f", "is_signed"]) fun _ _ _ _ _ _ us hl => match us, hl with | [_, _, _, _], _ => rfl
  have F_is_shown := fun_mk (st := s_is_shown) l_19 c_19 k_19
  have b_is_shown := F_is_shown.binds (ps := ["keeping", "value", "houses", "liars", "shown", "is_signed"]) fun _ _ _ _ _ _ us hl => match us, hl with | [_, _, _, _, _, _], _ => rfl
  have F_are_states := fun_mk (st := s_are_states) l_20 c_20 k_20
  have b_are_states := F_are_states.binds (ps := ["keeping", "houses", "value"]) fun _ _ _ _ _ _ us hl => match us, hl with | [_, _, _], _ => rfl
  have F_are_fooled_runs := fun_mk (st := s_are_fooled_runs) l_21 c_21 k_21
  have b_are_fooled_runs := F_are_fooled_runs.binds (ps := ["keeping", "houses", "f", "is_signed", "value"]) fun _ _ _ _ _ _ us hl => match us, hl with | [_, _, _, _, _], _ => rfl
  have F__law_heap := fun_mk (st := s__law_heap) l_22 c_22 k_22
  have b__law_heap := F__law_heap.binds (ps := ["script"]) fun _ _ _ _ _ _ us hl => match us, hl with | [_], _ => rfl
  have F__law_draw := fun_mk (st := s__law_draw) l_23 c_23 k_23
  have b__law_draw := F__law_draw.binds (ps := ["heap", "many"]) fun _ _ _ _ _ _ us hl => match us, hl with | [_, _], _ => rfl
  have F__law_pick := fun_mk (st := s__law_pick) l_24 c_24 k_24
  have b__law_pick := F__law_pick.binds (ps := ["heap", "some"]) fun _ _ _ _ _ _ us hl => match us, hl with | [_, _], _ => rfl
  have F__law_mixed := fun_mk (st := s__law_mixed) l_25 c_25 k_25
  have b__law_mixed := F__law_mixed.binds (ps := ["heap", "some"]) fun _ _ _ _ _ _ us hl => match us, hl with | [_, _], _ => rfl
  have F__law_like := fun_mk (st := s__law_like) l_26 c_26 k_26
  have b__law_like := F__law_like.binds (ps := ["told", "due"]) fun _ _ _ _ _ _ us hl => match us, hl with | [_, _], _ => rfl
  have F__law_rows := fun_mk (st := s__law_rows) l_27 c_27 k_27
  have b__law_rows := F__law_rows.binds (ps := ["heap", "houses"]) fun _ _ _ _ _ _ us hl => match us, hl with | [_, _], _ => rfl
  have F__law_least := fun_mk (st := s__law_least) l_28 c_28 k_28
  have b__law_least := F__law_least.binds (ps := ["rows", "houses"]) fun _ _ _ _ _ _ us hl => match us, hl with | [_, _], _ => rfl
  have F__law_is_lot := fun_mk (st := s__law_is_lot) l_29 c_29 k_29
  have b__law_is_lot := F__law_is_lot.binds (ps := ["value", "most"]) fun _ _ _ _ _ _ us hl => match us, hl with | [_, _], _ => rfl
  have F__law_is := fun_mk (st := s__law_is) l_30 c_30 k_30
  have b__law_is := F__law_is.binds (ps := ["states", "rows", "houses", "f", "is_signed", "parts"]) fun _ _ _ _ _ _ us hl => match us, hl with | [_, _, _, _, _, _], _ => rfl
  have F__law_bent := fun_mk (st := s__law_bent) l_31 c_31 k_31
  have b__law_bent := F__law_bent.binds (ps := ["heap", "states", "rows", "houses", "parts"]) fun _ _ _ _ _ _ us hl => match us, hl with | [_, _, _, _, _], _ => rfl
  have F__law_right := fun_mk (st := s__law_right) l_32 c_32 k_32
  have b__law_right := F__law_right.binds (ps := ["heap", "houses"]) fun _ _ _ _ _ _ us hl => match us, hl with | [_, _], _ => rfl
  have F__law_crowd_right := fun_mk (st := s__law_crowd_right) l_33 c_33 k_33
  have b__law_crowd_right := F__law_crowd_right.binds (ps := ["heap"]) fun _ _ _ _ _ _ us hl => match us, hl with | [_], _ => rfl
  have F_law := fun_mk (st := s_law) l_34 c_34 k_34
  have b_law := F_law.binds (ps := ["script"]) fun _ _ _ _ _ _ us hl => match us, hl with | [_], _ => rfl
  let T : Txt K mg := ⟨PySem.W.mg_none_of X G z_abs, PySem.W.mg_none_of X G z_all, PySem.W.mg_none_of X G z_bool, PySem.W.mg_none_of X G z_enumerate, PySem.W.mg_none_of X G z_int, PySem.W.mg_none_of X G z_isinstance, PySem.W.mg_none_of X G z_len, PySem.W.mg_none_of X G z_list, PySem.W.mg_none_of X G z_max, PySem.W.mg_none_of X G z_range, PySem.W.mg_none_of X G z_set, PySem.W.mg_none_of X G z_sorted, PySem.W.mg_none_of X G z_str, PySem.W.mg_none_of X G z_tuple, PySem.W.mg_none_of X G z_zip, t_MOST_KEEPERS, PySem.W.mg_of X G g_MOST_KEEPERS, t_MOST_STATES, PySem.W.mg_of X G g_MOST_STATES, t_MOST_VALUES, PySem.W.mg_of X G g_MOST_VALUES, C_FooledRuns, f_16, PySem.W.mg_of X G aC_FooledRuns, ⟨mk_FooledRuns, a_16, i_16, kc_FooledRuns⟩, ⟨pg_FooledRuns, hd_FooledRuns, po_FooledRuns, sa_FooledRuns⟩, noat (PySem.W.mg_of X G aC_FooledRuns) n_FooledRuns_one, noat (PySem.W.mg_of X G aC_FooledRuns) n_FooledRuns_other, noat (PySem.W.mg_of X G aC_FooledRuns) n_FooledRuns_liars, noat (PySem.W.mg_of X G aC_FooledRuns) n_FooledRuns_others, noat (PySem.W.mg_of X G aC_FooledRuns) n_FooledRuns_shown, C_Keeping, f_6, PySem.W.mg_of X G aC_Keeping, ⟨mk_Keeping, a_6, i_6, kc_Keeping⟩, ⟨pg_Keeping, hd_Keeping, po_Keeping, sa_Keeping⟩, noat (PySem.W.mg_of X G aC_Keeping) n_Keeping_states, noat (PySem.W.mg_of X G aC_Keeping) n_Keeping_rows, (kn_cons (P := fun _ C => IsiO K C) (PySem.W.mg_of X G aC_FooledRuns) ⟨is_f1_FooledRuns, is_f2, is_f3, is_f4_FooledRuns⟩ (kn_cons (P := fun _ C => IsiO K C) (PySem.W.mg_of X G aC_Keeping) ⟨is_f1_Keeping, is_f2, is_f3, is_f4_Keeping⟩ kn_nil)), (kn_cons (P := fun _ C => ∀ U : Tn, PySem.W.kitOne K (.ref C) (.type U.nm) = some false) (PySem.W.mg_of X G aC_FooledRuns) (fun U => match U with | .int => kit_bi (U := .int) is_u_FooledRuns_int | .bool => kit_bi (U := .bool) is_u_FooledRuns_bool | .str => kit_bi (U := .str) is_u_FooledRuns_str | .tuple => kit_bi (U := .tuple) is_u_FooledRuns_tuple | .list => kit_bi (U := .list) is_u_FooledRuns_list) (kn_cons (P := fun _ C => ∀ U : Tn, PySem.W.kitOne K (.ref C) (.type U.nm) = some false) (PySem.W.mg_of X G aC_Keeping) (fun U => match U with | .int => kit_bi (U := .int) is_u_Keeping_int | .bool => kit_bi (U := .bool) is_u_Keeping_bool | .str => kit_bi (U := .str) is_u_Keeping_str | .tuple => kit_bi (U := .tuple) is_u_Keeping_tuple | .list => kit_bi (U := .list) is_u_Keeping_list) kn_nil)), (kit_base2 is_f4_FooledRuns is_z_FooledRuns), (kn_cons (P := fun c C => PySem.W.kitOne K (.ref C) (.ref C_FooledRuns) = some (decide (c = "FooledRuns"))) (PySem.W.mg_of X G aC_FooledRuns) kit_own (kn_cons (P := fun c C => PySem.W.kitOne K (.ref C) (.ref C_FooledRuns) = some (decide (c = "FooledRuns"))) (PySem.W.mg_of X G aC_Keeping) (kit_sub is_f4_FooledRuns is_z_FooledRuns is_y_FooledRuns is_p_Keeping_FooledRuns) kn_nil)), (kit_base2 is_f4_Keeping is_z_Keeping), (kn_cons (P := fun c C => PySem.W.kitOne K (.ref C) (.ref C_Keeping) = some (decide (c = "Keeping"))) (PySem.W.mg_of X G aC_FooledRuns) (kit_sub is_f4_Keeping is_z_Keeping is_y_Keeping is_p_FooledRuns_Keeping) (kn_cons (P := fun c C => PySem.W.kitOne K (.ref C) (.ref C_Keeping) = some (decide (c = "Keeping"))) (PySem.W.mg_of X G aC_Keeping) kit_own kn_nil))⟩
  refine ⟨PySem.W.fnOf "law" "law" (defArgs s_law) (defBody s_law) (defScope s_law) .none kV_34 dc_34 pm_34 an_34 cd_34 ct_34, fun s v => .of_eq rfl, fun base _ _ => ?_⟩
  let D_is_integer : Df l.prog w K mg base 1 "is_integer" ["value"] (spV (gxOf K w mg) (W_is_integer)) := ⟨f_0, _, ok_is_integer F_is_integer T , PySem.W.mg_of X G a_0, k_0, b_is_integer⟩
  let D_is_number : Df l.prog w K mg base 2 "is_number" ["value", "most"] (spV (gxOf K w mg) (W_is_number)) := ⟨f_1, _, ok_is_number F_is_number T D_is_integer, PySem.W.mg_of X G a_1, k_1, b_is_number⟩
  let D_is_sequence : Df l.prog w K mg base 1 "is_sequence" ["value"] (spV (gxOf K w mg) (W_is_sequence)) := ⟨f_2, _, ok_is_sequence F_is_sequence T , PySem.W.mg_of X G a_2, k_2, b_is_sequence⟩
  let D_is_ascending : Df l.prog w K mg base 1 "is_ascending" ["row"] (spV (gxOf K w mg) (W_is_ascending)) := ⟨f_3, _, ok_is_ascending F_is_ascending T , PySem.W.mg_of X G a_3, k_3, b_is_ascending⟩
  let D_lot_of : Df l.prog w K mg base 3 "lot_of" ["value", "many"] (spV (gxOf K w mg) (W_lot_of)) := ⟨f_4, _, ok_lot_of F_lot_of T D_is_ascending D_is_sequence D_is_number, PySem.W.mg_of X G a_4, k_4, b_lot_of⟩
  let D_is_state_row : Df l.prog w K mg base 3 "is_state_row" ["states", "rows", "row"] (spV (gxOf K w mg) (W_is_state_row)) := ⟨f_5, _, ok_is_state_row F_is_state_row T D_is_sequence D_is_number, PySem.W.mg_of X G a_5, k_5, b_is_state_row⟩
  have G_Keeping_init : FnOk l.prog w K mg base CX0 4 f_6 _ ["self", "states", "rows"] (spN (gxOf K w mg) "Keeping" W_Keeping_init) := ok_Keeping_init F_Keeping_init T D_is_number D_is_sequence D_is_state_row
  let D_unlike_at : Df l.prog w K mg base 1 "unlike_at" ["keeping", "one", "other", "houses"] (spV (gxOf K w mg) (W_unlike_at)) := ⟨f_7, _, ok_unlike_at F_unlike_at T , PySem.W.mg_of X G a_7, k_7, b_unlike_at⟩
  let D_twins : Df l.prog w K mg base 2 "twins" ["keeping", "houses"] (spV (gxOf K w mg) (W_twins)) := ⟨f_8, _, ok_twins F_twins T D_unlike_at, PySem.W.mg_of X G a_8, k_8, b_twins⟩
  let D_least_unlike : Df l.prog w K mg base 3 "least_unlike" ["keeping", "houses"] (spV (gxOf K w mg) (W_least_unlike)) := ⟨f_9, _, ok_least_unlike F_least_unlike T D_twins D_unlike_at, PySem.W.mg_of X G a_9, k_9, b_least_unlike⟩
  let D_lies_needed : Df l.prog w K mg base 1 "lies_needed" ["f", "is_signed"] (spV (gxOf K w mg) (W_lies_needed)) := ⟨f_10, _, ok_lies_needed F_lies_needed T , PySem.W.mg_of X G a_10, k_10, b_lies_needed⟩
  let D_is_readable : Df l.prog w K mg base 4 "is_readable" ["keeping", "houses", "f", "is_signed"] (spV (gxOf K w mg) (W_is_readable)) := ⟨f_11, _, ok_is_readable F_is_readable T D_least_unlike D_lies_needed, PySem.W.mg_of X G a_11, k_11, b_is_readable⟩
  let D_lies_in : Df l.prog w K mg base 1 "lies_in" ["keeping", "value", "houses", "shown", "is_signed"] (spV (gxOf K w mg) (W_lies_in)) := ⟨f_12, _, ok_lies_in F_lies_in T , PySem.W.mg_of X G a_12, k_12, b_lies_in⟩
  let D_readings : Df l.prog w K mg base 2 "readings" ["keeping", "houses", "shown", "f", "is_signed"] (spV (gxOf K w mg) (W_readings)) := ⟨f_13, _, ok_readings F_readings T D_lies_in, PySem.W.mg_of X G a_13, k_13, b_readings⟩
  let D_only_reading : Df l.prog w K mg base 3 "only_reading" ["keeping", "houses", "shown", "f", "is_signed"] (spV (gxOf K w mg) (W_only_reading)) := ⟨f_14, _, ok_only_reading F_only_reading T D_readings, PySem.W.mg_of X G a_14, k_14, b_only_reading⟩
  let D_crowded : Df l.prog w K mg base 1 "crowded" ["keeping", "houses"] (spV (gxOf K w mg) (W_crowded)) := ⟨f_15, _, ok_crowded F_crowded T , PySem.W.mg_of X G a_15, k_15, b_crowded⟩
  have G_FooledRuns_init : FnOk l.prog w K mg base CX0 1 f_16 _ ["self", "one", "other", "liars", "others", "shown"] (spN (gxOf K w mg) "FooledRuns" W_FooledRuns_init) := ok_FooledRuns_init F_FooledRuns_init T 
  let D_shown_alike : Df l.prog w K mg base 1 "shown_alike" ["keeping", "one", "other", "houses", "liars", "others", "is_signed"] (spV (gxOf K w mg) (W_shown_alike)) := ⟨f_17, _, ok_shown_alike F_shown_alike T , PySem.W.mg_of X G a_17, k_17, b_shown_alike⟩
  let D_fooled_runs : Df l.prog w K mg base 3 "fooled_runs" ["keeping", "houses", "f", "is_signed"] (spV (gxOf K w mg) (W_fooled_runs)) := ⟨f_18, _, ok_fooled_runs F_fooled_runs T D_twins D_unlike_at D_shown_alike D_lies_needed G_FooledRuns_init b_FooledRuns_init, PySem.W.mg_of X G a_18, k_18, b_fooled_runs⟩
  let D_is_shown : Df l.prog w K mg base 1 "is_shown" ["keeping", "value", "houses", "liars", "shown", "is_signed"] (spV (gxOf K w mg) (W_is_shown)) := ⟨f_19, _, ok_is_shown F_is_shown T , PySem.W.mg_of X G a_19, k_19, b_is_shown⟩
  let D_are_states : Df l.prog w K mg base 3 "are_states" ["keeping", "houses", "value"] (spV (gxOf K w mg) (W_are_states)) := ⟨f_20, _, ok_are_states F_are_states T D_is_number, PySem.W.mg_of X G a_20, k_20, b_are_states⟩
  let D_are_fooled_runs : Df l.prog w K mg base 4 "are_fooled_runs" ["keeping", "houses", "f", "is_signed", "value"] (spV (gxOf K w mg) (W_are_fooled_runs)) := ⟨f_21, _, ok_are_fooled_runs F_are_fooled_runs T D_are_states D_lot_of D_is_shown D_is_number, PySem.W.mg_of X G a_21, k_21, b_are_fooled_runs⟩
  let D__law_heap : Df l.prog w K mg base 1 "_law_heap" ["script"] (spV (gxOf K w mg) (W__law_heap)) := ⟨f_22, _, (ok_heap F__law_heap T).imp fun _ _ _ _ h => heap_imp h, PySem.W.mg_of X G a_22, k_22, b__law_heap⟩
  let D__law_draw : Df l.prog w K mg base 1 "_law_draw" ["heap", "many"] (spV (gxOf K w mg) (W__law_draw)) := ⟨f_23, _, (ok_draw F__law_draw T).imp fun _ _ _ _ h => draw_imp h, PySem.W.mg_of X G a_23, k_23, b__law_draw⟩
  let D__law_pick : Df l.prog w K mg base 2 "_law_pick" ["heap", "some"] (spV (gxOf K w mg) (W__law_pick)) := ⟨f_24, _, ok__law_pick F__law_pick T D__law_draw, PySem.W.mg_of X G a_24, k_24, b__law_pick⟩
  let DP__law_pick : Df l.prog w K mg base 2 "_law_pick" ["heap", "some"] (spP (gxOf K w mg) (WP__law_pick)) := ⟨f_24, _, okP__law_pick F__law_pick T D__law_draw, PySem.W.mg_of X G a_24, k_24, b__law_pick⟩
  let D__law_mixed : Df l.prog w K mg base 2 "_law_mixed" ["heap", "some"] (spV (gxOf K w mg) (W__law_mixed)) := ⟨f_25, _, ok__law_mixed F__law_mixed T D__law_draw, PySem.W.mg_of X G a_25, k_25, b__law_mixed⟩
  let D__law_like_0 : Df l.prog w K mg base 0 "_law_like" ["told", "due"] (spV (gxOf K w mg) (W__law_like_at 0)) := ⟨f_26, _, nofn.imp fun _ _ _ _ h => by obtain ⟨_, _, _, _, _, _, h, _⟩ := h; exact h, PySem.W.mg_of X G a_26, k_26, b__law_like⟩
  let D__law_like_1 : Df l.prog w K mg base 1 "_law_like" ["told", "due"] (spV (gxOf K w mg) (W__law_like_at 1)) := ⟨f_26, _, ok__law_like_of F__law_like T  (by decide) D__law_like_0, PySem.W.mg_of X G a_26, k_26, b__law_like⟩
  let D__law_like_2 : Df l.prog w K mg base 2 "_law_like" ["told", "due"] (spV (gxOf K w mg) (W__law_like_at 2)) := ⟨f_26, _, ok__law_like_of F__law_like T  (by decide) D__law_like_1, PySem.W.mg_of X G a_26, k_26, b__law_like⟩
  let D__law_like_3 : Df l.prog w K mg base 3 "_law_like" ["told", "due"] (spV (gxOf K w mg) (W__law_like_at 3)) := ⟨f_26, _, ok__law_like_of F__law_like T  (by decide) D__law_like_2, PySem.W.mg_of X G a_26, k_26, b__law_like⟩
  let D__law_like := D__law_like_3
  let D__law_rows : Df l.prog w K mg base 3 "_law_rows" ["heap", "houses"] (spV (gxOf K w mg) (W__law_rows)) := ⟨f_27, _, ok__law_rows F__law_rows T D__law_draw D__law_pick D__law_mixed, PySem.W.mg_of X G a_27, k_27, b__law_rows⟩
  let D__law_least : Df l.prog w K mg base 1 "_law_least" ["rows", "houses"] (spV (gxOf K w mg) (W__law_least)) := ⟨f_28, _, ok__law_least F__law_least T , PySem.W.mg_of X G a_28, k_28, b__law_least⟩
  let D__law_is_lot : Df l.prog w K mg base 1 "_law_is_lot" ["value", "most"] (spV (gxOf K w mg) (W__law_is_lot)) := ⟨f_29, _, ok__law_is_lot F__law_is_lot T , PySem.W.mg_of X G a_29, k_29, b__law_is_lot⟩
  let D__law_is : Df l.prog w K mg base 2 "_law_is" ["states", "rows", "houses", "f", "is_signed", "parts"] (spV (gxOf K w mg) (W__law_is)) := ⟨f_30, _, ok__law_is F__law_is T D__law_is_lot, PySem.W.mg_of X G a_30, k_30, b__law_is⟩
  let D__law_bent : Df l.prog w K mg base 3 "_law_bent" ["heap", "states", "rows", "houses", "parts"] (spV (gxOf K w mg) (W__law_bent)) := ⟨f_31, _, ok__law_bent F__law_bent T D__law_pick DP__law_pick D__law_draw, PySem.W.mg_of X G a_31, k_31, b__law_bent⟩
  let D__law_right : Df l.prog w K mg base 6 "_law_right" ["heap", "houses"] (spV (gxOf K w mg) (W__law_right)) := ⟨f_32, _, ok__law_right F__law_right T D__law_rows D_readings D__law_pick D__law_least D_fooled_runs D__law_like D__law_bent D_are_fooled_runs D__law_draw D_is_readable D__law_is D_only_reading (kb_are_fooled_runs_4_3_2_1_0 F_are_fooled_runs) G_Keeping_init b_Keeping_init G_FooledRuns_init b_FooledRuns_init, PySem.W.mg_of X G a_32, k_32, b__law_right⟩
  let D__law_crowd_right : Df l.prog w K mg base 6 "_law_crowd_right" ["heap"] (spV (gxOf K w mg) (W__law_crowd_right)) := ⟨f_33, _, ok__law_crowd_right F__law_crowd_right T D_crowded D_fooled_runs D__law_draw G_Keeping_init b_Keeping_init, PySem.W.mg_of X G a_33, k_33, b__law_crowd_right⟩
  exact (ok_law F_law T D__law_heap D_fooled_runs D__law_right D__law_crowd_right D__law_draw D__law_pick G_Keeping_init b_Keeping_init).imp fun vs H Q E h => law_imp law_true h
theorem walk {l : PySem.W.OpenLaw} {q : Program} {loose : List Str} {XP : (Str → Option Value) → Heap → Prop} {YP : World → Heap → Prop} {d : DefRec} {K : Params → PySem.W.Frag} (hn : l.most = some 63) (hdf : d.params.defaults = [])
    (hY : ∀ (w : World) (h : Heap), YP w h → (K w.params).In h)
    (F : ∀ (w : World) (mg : Str → Option Value) (fa : Addr) (h : Heap), (K w.params).In h → h.Ns mainGlobals mg → mg d.name = some (.ref fa) →
      ∃ fd : FuncData, (∀ (s : Shared) (u : Value), BindsTo s fd ⟨[u], []⟩ [("script", u)]) ∧ ∀ base : Heap, (K w.params).In base → base.Ns mainGlobals mg → FnOk l.prog w (K w.params) mg base CX0 7 fa fd ["script"] (Vl.sp_law (K w.params))) :
    PySem.W.WalkO q loose XP YP l.row.toRowW d [] (fun f vs => PySem.call f vs) :=
  L2.walk_of (n := 63) (k := 7) (x := "script") (CX := fun _ => CX0) (sp := fun w => Vl.sp_law (K w.params)) hn (by decide) hdf ⟨rfl, by decide, by decide⟩ hY F (fun _ _ a ns hl _ hS => ⟨a, ns, rfl, hS, hl, fun _ => rfl⟩) fun _ _ _ _ _ z => z
end K40

open PySem PySem.W PyProof.Rows in
set_option maxRecDepth 100000 in
set_option maxHeartbeats 0 in
theorem PySem.Challenge.cw_piecesapart_k40_whole_fooled_runs_holds : PySem.Challenge.rw_piecesapart_k40_whole_fooled_runs.Holds := by
  w_on; o_law; k_head; (case hw => w_witness2)
  k_fill
  refine K40.walk (l := PySem.Challenge.rw_piecesapart_k40_whole_fooled_runs) rfl rfl (fun w h Y => PySem.W.kIn_of Y) ?F
  case F =>
    intro w mg fa h KX G hmg
    refine' K40.all_mk KX G hmg ?z_abs ?z_all ?z_bool ?z_enumerate ?z_int ?z_isinstance ?z_len ?z_list ?z_max ?z_range ?z_set ?z_sorted ?z_str ?z_tuple ?z_zip ?g_MOST_KEEPERS ?g_MOST_STATES ?g_MOST_VALUES ?aC_FooledRuns ?pg_FooledRuns ?hd_FooledRuns ?po_FooledRuns ?sa_FooledRuns ?mk_FooledRuns ?kc_FooledRuns ?n_FooledRuns_one ?n_FooledRuns_other ?n_FooledRuns_liars ?n_FooledRuns_others ?n_FooledRuns_shown ?aC_Keeping ?pg_Keeping ?hd_Keeping ?po_Keeping ?sa_Keeping ?mk_Keeping ?kc_Keeping ?n_Keeping_states ?n_Keeping_rows ?is_f2 ?is_f3 ?is_f1_FooledRuns ?is_f4_FooledRuns ?is_u_FooledRuns_int ?is_u_FooledRuns_bool ?is_u_FooledRuns_str ?is_u_FooledRuns_tuple ?is_u_FooledRuns_list ?is_f1_Keeping ?is_f4_Keeping ?is_u_Keeping_int ?is_u_Keeping_bool ?is_u_Keeping_str ?is_u_Keeping_tuple ?is_u_Keeping_list ?is_z_FooledRuns ?is_y_FooledRuns ?is_p_Keeping_FooledRuns ?is_z_Keeping ?is_y_Keeping ?is_p_FooledRuns_Keeping ?a_0 ?l_0 ?c_0 ?k_0 ?a_1 ?l_1 ?c_1 ?k_1 ?t_1 ?a_2 ?l_2 ?c_2 ?k_2 ?a_3 ?l_3 ?c_3 ?k_3 ?a_4 ?l_4 ?c_4 ?k_4 ?a_5 ?l_5 ?c_5 ?k_5 ?a_6 ?i_6 ?l_6 ?c_6 ?k_6 ?a_7 ?l_7 ?c_7 ?k_7 ?a_8 ?l_8 ?c_8 ?k_8 ?a_9 ?l_9 ?c_9 ?k_9 ?a_10 ?l_10 ?c_10 ?k_10 ?a_11 ?l_11 ?c_11 ?k_11 ?a_12 ?l_12 ?c_12 ?k_12 ?a_13 ?l_13 ?c_13 ?k_13 ?a_14 ?l_14 ?c_14 ?k_14 ?a_15 ?l_15 ?c_15 ?k_15 ?a_16 ?i_16 ?l_16 ?c_16 ?k_16 ?a_17 ?l_17 ?c_17 ?k_17 ?a_18 ?l_18 ?c_18 ?k_18 ?a_19 ?l_19 ?c_19 ?k_19 ?a_20 ?l_20 ?c_20 ?k_20 ?a_21 ?l_21 ?c_21 ?k_21 ?a_22 ?l_22 ?c_22 ?k_22 ?a_23 ?l_23 ?c_23 ?k_23 ?a_24 ?l_24 ?c_24 ?k_24 ?a_25 ?l_25 ?c_25 ?k_25 ?a_26 ?l_26 ?c_26 ?k_26 ?a_27 ?l_27 ?c_27 ?k_27 ?a_28 ?l_28 ?c_28 ?k_28 ?a_29 ?l_29 ?c_29 ?k_29 ?a_30 ?l_30 ?c_30 ?k_30 ?a_31 ?l_31 ?c_31 ?k_31 ?a_32 ?l_32 ?c_32 ?k_32 ?a_33 ?l_33 ?c_33 ?k_33 ?a_34 ?l_34 ?c_34 ?k_34
    (case z_abs => k_is)
    (case z_all => k_is)
    (case z_bool => k_is)
    (case z_enumerate => k_is)
    (case z_int => k_is)
    (case z_isinstance => k_is)
    (case z_len => k_is)
    (case z_list => k_is)
    (case z_max => k_is)
    (case z_range => k_is)
    (case z_set => k_is)
    (case z_sorted => k_is)
    (case z_str => k_is)
    (case z_tuple => k_is)
    (case z_zip => k_is)
    (case g_MOST_KEEPERS => k_is)
    (case g_MOST_STATES => k_is)
    (case g_MOST_VALUES => k_is)
    (case aC_FooledRuns => k_is)
    (case pg_FooledRuns => k_is)
    (case hd_FooledRuns => k_is)
    (case po_FooledRuns => k_is)
    (case sa_FooledRuns => k_is)
    (case mk_FooledRuns => k_is)
    (case kc_FooledRuns => k_is)
    (case n_FooledRuns_one => k_is)
    (case n_FooledRuns_other => k_is)
    (case n_FooledRuns_liars => k_is)
    (case n_FooledRuns_others => k_is)
    (case n_FooledRuns_shown => k_is)
    (case aC_Keeping => k_is)
    (case pg_Keeping => k_is)
    (case hd_Keeping => k_is)
    (case po_Keeping => k_is)
    (case sa_Keeping => k_is)
    (case mk_Keeping => k_is)
    (case kc_Keeping => k_is)
    (case n_Keeping_states => k_is)
    (case n_Keeping_rows => k_is)
    (case is_f2 => k_is)
    (case is_f3 => k_is)
    (case is_f1_FooledRuns => k_is)
    (case is_f4_FooledRuns => k_is)
    (case is_u_FooledRuns_int => k_is)
    (case is_u_FooledRuns_bool => k_is)
    (case is_u_FooledRuns_str => k_is)
    (case is_u_FooledRuns_tuple => k_is)
    (case is_u_FooledRuns_list => k_is)
    (case is_f1_Keeping => k_is)
    (case is_f4_Keeping => k_is)
    (case is_u_Keeping_int => k_is)
    (case is_u_Keeping_bool => k_is)
    (case is_u_Keeping_str => k_is)
    (case is_u_Keeping_tuple => k_is)
    (case is_u_Keeping_list => k_is)
    (case is_z_FooledRuns => k_is)
    (case is_y_FooledRuns => k_is)
    (case is_p_Keeping_FooledRuns => k_is)
    (case is_z_Keeping => k_is)
    (case is_y_Keeping => k_is)
    (case is_p_FooledRuns_Keeping => k_is)
    (case a_0 => k_is)
    (case l_0 => k_is)
    (case c_0 => k_is)
    (case k_0 => k_is)
    (case a_1 => k_is)
    (case l_1 => k_is)
    (case c_1 => k_is)
    (case k_1 => k_is)
    (case t_1 => k_is)
    (case a_2 => k_is)
    (case l_2 => k_is)
    (case c_2 => k_is)
    (case k_2 => k_is)
    (case a_3 => k_is)
    (case l_3 => k_is)
    (case c_3 => k_is)
    (case k_3 => k_is)
    (case a_4 => k_is)
    (case l_4 => k_is)
    (case c_4 => k_is)
    (case k_4 => k_is)
    (case a_5 => k_is)
    (case l_5 => k_is)
    (case c_5 => k_is)
    (case k_5 => k_is)
    (case a_6 => k_is)
    (case i_6 => k_is)
    (case l_6 => k_is)
    (case c_6 => k_is)
    (case k_6 => k_is)
    (case a_7 => k_is)
    (case l_7 => k_is)
    (case c_7 => k_is)
    (case k_7 => k_is)
    (case a_8 => k_is)
    (case l_8 => k_is)
    (case c_8 => k_is)
    (case k_8 => k_is)
    (case a_9 => k_is)
    (case l_9 => k_is)
    (case c_9 => k_is)
    (case k_9 => k_is)
    (case a_10 => k_is)
    (case l_10 => k_is)
    (case c_10 => k_is)
    (case k_10 => k_is)
    (case a_11 => k_is)
    (case l_11 => k_is)
    (case c_11 => k_is)
    (case k_11 => k_is)
    (case a_12 => k_is)
    (case l_12 => k_is)
    (case c_12 => k_is)
    (case k_12 => k_is)
    (case a_13 => k_is)
    (case l_13 => k_is)
    (case c_13 => k_is)
    (case k_13 => k_is)
    (case a_14 => k_is)
    (case l_14 => k_is)
    (case c_14 => k_is)
    (case k_14 => k_is)
    (case a_15 => k_is)
    (case l_15 => k_is)
    (case c_15 => k_is)
    (case k_15 => k_is)
    (case a_16 => k_is)
    (case i_16 => k_is)
    (case l_16 => k_is)
    (case c_16 => k_is)
    (case k_16 => k_is)
    (case a_17 => k_is)
    (case l_17 => k_is)
    (case c_17 => k_is)
    (case k_17 => k_is)
    (case a_18 => k_is)
    (case l_18 => k_is)
    (case c_18 => k_is)
    (case k_18 => k_is)
    (case a_19 => k_is)
    (case l_19 => k_is)
    (case c_19 => k_is)
    (case k_19 => k_is)
    (case a_20 => k_is)
    (case l_20 => k_is)
    (case c_20 => k_is)
    (case k_20 => k_is)
    (case a_21 => k_is)
    (case l_21 => k_is)
    (case c_21 => k_is)
    (case k_21 => k_is)
    (case a_22 => k_is)
    (case l_22 => k_is)
    (case c_22 => k_is)
    (case k_22 => k_is)
    (case a_23 => k_is)
    (case l_23 => k_is)
    (case c_23 => k_is)
    (case k_23 => k_is)
    (case a_24 => k_is)
    (case l_24 => k_is)
    (case c_24 => k_is)
    (case k_24 => k_is)
    (case a_25 => k_is)
    (case l_25 => k_is)
    (case c_25 => k_is)
    (case k_25 => k_is)
    (case a_26 => k_is)
    (case l_26 => k_is)
    (case c_26 => k_is)
    (case k_26 => k_is)
    (case a_27 => k_is)
    (case l_27 => k_is)
    (case c_27 => k_is)
    (case k_27 => k_is)
    (case a_28 => k_is)
    (case l_28 => k_is)
    (case c_28 => k_is)
    (case k_28 => k_is)
    (case a_29 => k_is)
    (case l_29 => k_is)
    (case c_29 => k_is)
    (case k_29 => k_is)
    (case a_30 => k_is)
    (case l_30 => k_is)
    (case c_30 => k_is)
    (case k_30 => k_is)
    (case a_31 => k_is)
    (case l_31 => k_is)
    (case c_31 => k_is)
    (case k_31 => k_is)
    (case a_32 => k_is)
    (case l_32 => k_is)
    (case c_32 => k_is)
    (case k_32 => k_is)
    (case a_33 => k_is)
    (case l_33 => k_is)
    (case c_33 => k_is)
    (case k_33 => k_is)
    (case a_34 => k_is)
    (case l_34 => k_is)
    (case c_34 => k_is)
    (case k_34 => k_is)
