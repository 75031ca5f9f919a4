import PyProof.Rows.All
import Wide.All
import OpenK.AllK
import Wide.FinOn
import HandS.ForMost
import HandS.Zip
import HandS.Style
import HandS.IsInst
import HandS.Deep
import HandS.Defaults
import HandS.Flow
import HandS.Walk
import KE.GoesEnum
import PySem.Challenge.RW_piecesapart_k55_whole_the_least_counts
set_option Elab.async false
set_option linter.all false
set_option maxRecDepth 100000
set_option maxHeartbeats 8000000
namespace Hl
open PySem PySem.Spec PyProof.Rows L2

/-! ### heaps that grow -/
theorem seqT {K : PySem.W.Frag} {H H' : Hp} {a : Addr} {xs : List V} (e : Same H H') (h : SqT K H a xs) : SqT K H' a xs := by
  rcases h with (h | ⟨o, h⟩) | h
  · exact .inl (.inl (e _ _ h))
  · exact .inl (.inr ⟨o, e _ _ h⟩)
  · exact .inr h
theorem same_new {H : Hp} {p : Addr} {o : HO} (h : H p = none) : Same H (upd H p o) := fun b x e => by
  rw [upd_ne (ne_of_none e h)]
  exact e
/-- what H does not know may change -/
theorem same_mut {H H' : Hp} {p : Addr} {o : HO} (e : Same H H') (h : H p = none) : Same H (upd H' p o) := fun b x hb => by
  rw [upd_ne (ne_of_none hb h)]
  exact e b x hb
theorem room65 {k : Nat} {A : Around} (r : Room k A) : A.units + 65 < cLine := by
  have := r.un
  omega
mutual
theorem dp_mono {K : PySem.W.Frag} {H H' : Hp} (e : Same H H') : ∀ {v : V} {d : PyData}, Dp K H v d → Dp K H' v d
  | _, _, .non => .non
  | _, _, .bl b => .bl b
  | _, _, .int i => .int i
  | _, _, .str x => .str x
  | _, _, .lst h a => .lst (e.seq h) (dps_mono e a)
  | _, _, .tup h a => .tup (seqT e h) (dps_mono e a)
theorem dps_mono {K : PySem.W.Frag} {H H' : Hp} (e : Same H H') : ∀ {vs : List V} {ds : List PyData}, DpAll K H vs ds → DpAll K H' vs ds
  | _, _, .nil => .nil
  | _, _, .cons h t => .cons (dp_mono e h) (dps_mono e t)
end
theorem dps_len {K : PySem.W.Frag} {H : Hp} : ∀ {vs : List V} {ds : List PyData}, DpAll K H vs ds → vs.length = ds.length
  | _, _, .nil => rfl
  | _, _, .cons _ t => by rw [List.length_cons, List.length_cons, dps_len t]
theorem dps_get {K : PySem.W.Frag} {H : Hp} : ∀ {vs : List V} {ds : List PyData} {i : Nat} {v : V}, DpAll K H vs ds → vs[i]? = some v → ∃ d, ds[i]? = some d ∧ Dp K H v d
  | _, _, _, _, .nil, h => by simp at h
  | _, _, 0, _, .cons h _, e => by simp at e; subst e; exact ⟨_, rfl, h⟩
  | _, _, i + 1, v, .cons _ t, e => by
    obtain ⟨d, h1, h2⟩ := dps_get (i := i) (v := v) t (by simpa using e)
    exact ⟨d, by simpa using h1, h2⟩
theorem dps_app {K : PySem.W.Frag} {H : Hp} : ∀ {vs ws : List V} {ds es : List PyData}, DpAll K H vs ds → DpAll K H ws es → DpAll K H (vs ++ ws) (ds ++ es)
  | _, _, _, _, .nil, h => h
  | _, _, _, _, .cons h t, u => .cons h (dps_app t u)
theorem dps_ints {K : PySem.W.Frag} {H : Hp} : ∀ ns : List Int, DpAll K H (ns.map V.int) (ns.map PyData.int)
  | [] => .nil
  | n :: r => .cons (.int n) (dps_ints r)
/-- an int's data -/
theorem dp_int {K : PySem.W.Frag} {H : Hp} {v : V} {i : Int} (h : Dp K H v (.int i)) : v = .int i := by cases h; rfl

/-! ### a def of the text that stands behind the top, with its promise -/
structure Df (P : Program) (w : World) (K : PySem.W.Frag) (mg : Str → Option Value) (base : Heap) (k : Nat) (nm : Str) (ps : List Str) (sp : Sp) where
  f : Addr
  fd : FuncData
  ok : FnOk P w K mg base CX0 k f fd ps sp
  m : mg nm = some (.ref f)
  kp : PySem.W.keepIn K (.ref f) = true
  b : Binds K fd ps []

theorem nofn {P : Program} {w : World} {K : PySem.W.Frag} {mg : Str → Option Value} {base : Heap} {CX : CXT} {k : Nat} {f : Addr} {fd : FuncData} {ps : List Str} : FnOk P w K mg base CX k f fd ps (fun _ _ _ _ => False) := ⟨fun _ _ _ _ h => h.elim, fun _ _ _ _ _ _ _ _ _ _ _ _ _ h => h.elim⟩
theorem fnok_or {P : Program} {w : World} {K : PySem.W.Frag} {mg : Str → Option Value} {base : Heap} {CX : CXT} {k : Nat} {f : Addr} {fd : FuncData} {ps : List Str} {sp sp' : Sp} (F : FnOk P w K mg base CX k f fd ps sp) (G : FnOk P w K mg base CX k f fd ps sp') :
    FnOk P w K mg base CX k f fd ps (fun vs H Q E => sp vs H Q E ∨ sp' vs H Q E) where
  len := fun vs H Q E h => h.elim (F.len vs H Q E) (G.len vs H Q E)
  run := fun A outer s H args us vs Q E hr he hb hv h => h.elim (F.run A outer s H args us vs Q E hr he hb hv) (G.run A outer s H args us vs Q E hr he hb hv)
section
variable {X : Cx} {CX : CXT} {k : Nat} {f C : Addr} {fd : FuncData} {ps ks : List Str} {sp : Sp} {E : XK} {x m : Str} {p pos apos kpos : Pos} {e o : Expr} {es : List Expr} {kws : List Keyword} {te ta : TE} {t tk : TA} {nm : Option Str}
variable {g : List Value → List Value → List Value} {gV : List V → List V → List V}
/-- f(k = v, ..) -/
theorem pe_callK0 (F : FnOk X.prog X.w X.K X.mg X.base CX k f fd ps sp) (hr : Room k X.A) (hg : Gl X x) (hm : X.mg x = some (.ref f)) (hk : PySem.W.keepIn X.K (.ref f) = true) (hb : KBinds X.K fd ps ks g gV) (hx : Passes CX X E)
    (hkw : PK X kws tk) (hall : (backToKw pos (keywordEach kws X.env)).all (·.1.isSome) = true := by rfl) (hks : (backToKw pos (keywordEach kws X.env)).filterMap (·.1) = ks := by rfl)
    (hdb : (x == ("__debug__" : Str)) = false := by decide)
    (hpl : ((backTo pos (starEach [] X.env)).any (·.1) || (backToKw pos (keywordEach kws X.env)).any (·.1.isNone)) = false := by rfl) :
    PE X (.Call (.Name x p) [] kws pos) (tCallK sp gV E tNil tk) := by
  refine ⟨fun pins s σ H Q I h => ?_⟩
  refine wpAny_Call_Name_kw (ld_glob I hg hm ?_ hdb)
  refine PySem.W.callWith_KW0 (h₀ := X.base) I.ok.mod.kin hk hall ?_ hpl
  refine thn (hkw.run pos pins s σ H _ I h) fun ws s2 ⟨zs, H2, I2, rz, q2⟩ => ⟨I2.kIn, ?_⟩
  rw [hks]
  exact run_fnk (us := []) (vs := []) F hr hb hx I2 .nil rz q2
end

/-! ### enumerate(tuple) -/
theorem meets_enumerate_newT {v : Value} {o : Obj} {H : Heap → Prop} (B : Begins v o H) :
    Meets (Builtin.«enumerate.__new__» ⟨[.type "enumerate", v], []⟩) (fun _ R s => H s.heap ∧
      R (.ok (.ret (.ref (s.heap.push o).objs.size))) { s with heap := (s.heap.push o).push { cls := .type "enumerate", data := .fields #[.none, .bool false, .ref s.heap.objs.size, rawInt 0, .none, .none] } }) :=
  .of_wp fun prog w A R s h => by
    obtain ⟨hp, g, d, tk, os⟩ := s; obtain ⟨h1, h⟩ := h
    have hsub := sub_enumerate
    have q1 : ∀ {A' : Around} {E : Value → Shared → Prop} {Q : Value → Shared → Prop}, Q (.ref hp.objs.size) ⟨hp.push o, g, d, tk, os⟩ → wpAny (model prog w) A' (pyIter v) Q E ⟨hp, g, d, tk, os⟩ :=
      fun q => B.iter prog w _ _ ⟨hp, g, d, tk, os⟩ _ h1 q
    wp_walk using q1
    refine wpAny_stack_any fun st => wpAny_pure ?_
    split
    · rename_i c _ _ _ _ _
      cases (c == Value.type "enumerate")
      · wp_walk using q1
        exact ⟨_, rfl, h⟩
      · wp_walk using q1
        exact ⟨_, rfl, h⟩
    · wp_walk using q1
      exact ⟨_, rfl, h⟩
theorem call_enumerate_tuple {prog : Program} {w : World} {A : Around} {E : Value → Shared → Prop} {s : Shared} {l : Addr} {items : Array Value} {Q : Value → Shared → Prop} (hL : s.heap.IsTuple l items)
    (h : ∀ h', IsEnum h' (s.heap.objs.size + 1) s.heap.objs.size 0 .none → h'.IsTupleIter s.heap.objs.size l 0 → h'.objs.size = s.heap.objs.size + 2 →
      (∀ b o, s.heap.get? b = some o → h'.get? b = some o) → Q (.ref (s.heap.objs.size + 1)) { s with heap := h' }) :
    wpAny (model prog w) A (call (.type "enumerate") [.ref l]) Q E s := by
  refine callType_new F.called_enumerate (by decide) (F.typeCall_enumerate_1 _) (F.newCall_enumerate_1 _) (fun obj => F.args_object_init_2 obj _) F.entry_enumerate_new
    (meets_enumerate_newT (begins_tuple l items)) ⟨hL, ?_⟩
  have hz : (s.heap.push { cls := .type "tuple_iterator", data := .fields #[.ref l, .int 0 0] }).objs.size = s.heap.objs.size + 1 := Heap.size_push ..
  show _ ∧ _
  rw [hz]
  have he : IsEnum ((s.heap.push { cls := .type "tuple_iterator", data := .fields #[.ref l, .int 0 0] }).push
      { cls := .type "enumerate", data := .fields #[.none, .bool false, .ref s.heap.objs.size, rawInt 0, .none, .none] }) (s.heap.objs.size + 1) s.heap.objs.size 0 .none := by
    have := Heap.get?_push_size (s.heap.push { cls := .type "tuple_iterator", data := .fields #[.ref l, .int 0 0] })
      (o := { cls := .type "enumerate", data := .fields #[.none, .bool false, .ref s.heap.objs.size, rawInt 0, .none, .none] }) rfl
    rw [hz] at this; exact this
  refine ⟨⟨_, he, rfl⟩, h _ he ⟨_, Heap.get?_push_of_some _ (Heap.get?_push_size _ rfl), rfl, rfl⟩ (by rw [Heap.size_push, hz]) fun b o x => Heap.get?_push_of_some _ (Heap.get?_push_of_some _ x)⟩
def IteT (K : PySem.W.Frag) (a : Addr) : It :=
  ⟨fun i H => ∃ (xs : List V) (x : V), SqT K H a xs ∧ xs[i]? = some x, fun i H v H' => ∃ T x, v = .ref T ∧ H T = none ∧ H' = upd H T (.tup [.int (i : Nat), x]) ∧ ∀ xs, SqT K H a xs → xs[i]? = some x, fun i H => ∃ xs : List V, SqT K H a xs ∧ xs.length = i⟩
theorem turn_enumT {P : Program} {w : World} {K : PySem.W.Frag} {elts : List Expr} {kk : Nat} {tpos : Pos} (a e it : Addr) (hai : a ≠ it) (hea : e ≠ a) :
    Turn P w K (.Tuple elts kk tpos) (IteT K a) [e, it] e (fun i h => (∃ old, IsEnum h e it ((i : Nat) : Int) old) ∧ h.IsTupleIter it a i ∧ e ≠ it) where
  mem := by simp
  obj := fun i h st b hb => by
    obtain ⟨⟨old, he⟩, ⟨o, ho, hc, hd⟩, _⟩ := st
    have e' : b = e ∨ b = it := by simpa using hb
    rcases e' with z | z
    · rw [z]; exact ⟨_, he, fun v q => nomatch q⟩
    · rw [z]; exact ⟨o, ho, fun v q => by rw [hd] at q; cases q⟩
  keep := fun i h h' st k => let ⟨⟨old, he⟩, hi, hne⟩ := st; ⟨⟨old, k e (by simp) _ he⟩, hi.at fun o q => k it (by simp) o q, hne⟩
  item := by
    intro X hP hw hK hc i pins s σ H E I hf st hg
    subst hP hw hK
    obtain ⟨⟨old, he⟩, hit, hne⟩ := st
    obtain ⟨xs, x, hq, hx⟩ := hg
    obtain ⟨its, rv, p, hz⟩ := I.tuple hq
    obtain ⟨u, hu, ru⟩ := rv.get hx
    have hlt : i < its.toArray.size := by
      obtain ⟨h1, _⟩ := List.getElem?_eq_some_iff.mp hu
      simpa using h1
    have hel : e < s.heap.objs.size := Heap.lt_size he
    have hil : it < s.heap.objs.size := by obtain ⟨_, q, _⟩ := hit; exact Heap.lt_size q
    refine wpAny_pyNext_enum_itemD (Draws.tuple (A := X.A.in1) (I.ok.hd hc) it a hai its.toArray) he ⟨hit, p⟩ hlt hne (by simp; exact ⟨hne, hea⟩) fun y h' tk hy ho hst hT hsz hk => ?_
    obtain rfl : y = u := by
      have z : its.toArray[i]? = some u := by simpa using hu
      exact Option.some.inj ((show its.toArray[i]? = some y from hy).symm.trans z)
    refine ⟨_, rfl, wpAny_letOwnedTupleGo_enum (s := { s with heap := h', toks := tk + 1 }) ho fun h'' he' sb => ?_⟩
    have hT2 : h''.get? s.heap.objs.size = some { cls := .type "tuple", data := .seq #[.int i tk, y] } := (sb.2 _ (Nat.ne_of_gt hel)).trans hT
    have new : ObjOk X.prog X.w (upd H s.heap.objs.size (.tup [.int (i : Nat), x])) h'' s.heap.objs.size (.tup [.int (i : Nat), x]) :=
      ⟨by show 2 ≤ sizeLine; decide, [.int i tk, y], .cons ⟨_, rfl⟩ (.cons ru .nil), ⟨_, hT2, rfl, _, rfl⟩⟩
    have I1 : Inv X pins σ (upd H s.heap.objs.size (.tup [.int (i : Nat), x])) { s with heap := h'', toks := tk + 1 } :=
      I.turnedNew (ch := [e, it]) (fun b ob hb q => (sb.2 b (fun z => hb (by simp [z]))).trans (hk b ob (fun z => hb (by simp [z])) (fun z => hb (by simp [z])) q)) hf (Nat.le_refl _) new
    refine ⟨.ref s.heap.objs.size, _, I1, rfl, ⟨_, x, rfl, I.hok.fresh (Nat.le_refl _), rfl, fun ys hy => by rw [I.tuple_inj hy hq]; exact hx⟩, ⟨⟨y, ?_⟩, hst.1.at fun o q => (sb.2 it (Ne.symm hne)).trans q, hne⟩, fun b hb => ?_⟩
    · have e1 : ((i + 1 : Nat) : Int) = (i : Int) + 1 := by omega
      rw [e1]; exact he'
    · have hb' : b < s.heap.objs.size := by
        have e' : b = e ∨ b = it := by simpa using hb
        rcases e' with z | z
        · rw [z]; exact hel
        · rw [z]; exact hil
      rw [upd_ne (Nat.ne_of_lt hb')]
      exact (hf b hb).1
  done := by
    intro X hP hw hK hc i pins s σ H E I hf st hg
    subst hP hw hK
    obtain ⟨⟨old, he⟩, hit, hne⟩ := st
    obtain ⟨xs, hq, hx⟩ := hg
    obtain ⟨its, rv, p, hz⟩ := I.tuple hq
    obtain ⟨f0, f1, f2, f3, f4, f5⟩ := hf it (by simp)
    have hl := rv.length
    have hi : i = its.toArray.size := by simp; omega
    exact wpAny_pyNext_enum_endD (Draws.tuple (A := X.A.in1) (I.ok.hd hc) it a hai its.toArray) he ⟨hi ▸ hit, p⟩ fun h' eb => ⟨rfl, I.turned (t' := s.toks) (fun b o hb q => eb b o hb q) f0 f1 f3 f4 f5⟩
  self := fun A i s Q E st h => let ⟨⟨_, he⟩, _⟩ := st; wpAny_pyIter_enum he h
def iEnumT (K : PySem.W.Frag) (ta : TA) : TI := fun σ H R => ta σ H fun vs H1 => ∃ a xs, vs = [.ref a] ∧ SqT K H1 a xs ∧ R (IteT K a) H1
theorem pi_enumT {X : Cx} {e : Expr} {ta : TA} {p pos tpos : Pos} {elts : List Expr} {kk : Nat} (hg : Gl X "enumerate") (hm : X.mg "enumerate" = none) (ha : PA X [e] ta) (hs : starEach [e] X.env = [(false, eval e X.env)] := by rfl) :
    PI X (.Tuple elts kk tpos) (.Call (.Name "enumerate" p) [e] [] pos) (iEnumT X.K ta) := by
  refine ⟨fun pins s σ H R I h => ?_⟩
  refine Call_ (ld_blt I hg hm boot_enumerate (PyProof.Rows.callWith_type1 (thn (ha.run pos pins s σ H _ I h) fun us s1 ⟨vs, H1, I1, r1, q1⟩ => ?_) hs rfl))
  obtain ⟨a, xs, ex, hq, q⟩ := q1
  subst ex
  cases r1 with
  | cons r rr =>
    cases rr
    cases r
    obtain ⟨its, rv, p', hz⟩ := I1.tuple hq
    have hal : a < s1.heap.objs.size := p'.lt
    refine call_enumerate_tuple (items := its.toArray) p' fun h' he hit hsz hk => wpAny_pyIter_enum he ?_
    have I2 : Inv X pins σ H1 { s1 with heap := h' } := I1.kept (t' := s1.toks) hk
    refine ⟨s1.heap.objs.size + 1, [s1.heap.objs.size + 1, s1.heap.objs.size], _, _, H1, rfl, I2, turn_enumT a (s1.heap.objs.size + 1) s1.heap.objs.size (Nat.ne_of_lt hal) (Ne.symm (Nat.ne_of_lt (Nat.lt_succ_of_lt hal))), ⟨⟨.none, he⟩, hit, Nat.succ_ne_self _⟩, fun b hb => ?_, q⟩
    have e' : b = s1.heap.objs.size + 1 ∨ b = s1.heap.objs.size := by simpa using hb
    have hle : s1.heap.objs.size ≤ b := by
      rcases e' with z | z
      · rw [z]; exact Nat.le_add_right _ _
      · rw [z]; exact Nat.le_refl _
    exact I1.fpOk hle (I1.hok.fresh hle)
theorem walk_enumT {K : PySem.W.Frag} {a : Addr} {xs : List V} : Walk (IteT K a) xs.length (fun H => SqT K H a xs) (YPair (fun i => some (.int (i : Nat))) (fun i => xs[i]?)) where
  goes := fun i H hi h => ⟨xs, xs[i], h, List.getElem?_eq_getElem hi⟩
  stops := fun H h => ⟨xs, h, rfl⟩
  yields := fun i H x H' _ h hy => by
    obtain ⟨T, y, rfl, hT, rfl, e⟩ := hy
    exact ⟨T, _, y, rfl, hT, rfl, rfl, e xs h⟩
theorem ite_dec {c A B : Prop} [Decidable c] (h1 : c → A) (h2 : ¬ c → B) : if decide c = true then A else B := by
  by_cases h : c
  · rw [decide_eq_true h]; exact iteT (h1 h)
  · rw [decide_eq_false h]; exact iteF (h2 h)
section
variable {X : Cx} {x : Str} {pos : Pos}
/-- a built-in class as a value -/
theorem pe_ty (T : String) (hg : Gl X x) (hm : X.mg x = none) (hv : bootBuiltins x = some (.type T) := by decide +kernel) (hn : x ≠ "__name__" := by decide) (hd : (x == ("__debug__" : Str)) = false := by decide) : PE X (.Name x pos) (tC (.ty T)) :=
  pe_bltn hg hm hv rfl hn hd
end
section
variable {K : PySem.W.Frag} {H : Hp} {Q : VK} {x : V} {a : Addr}
/-- isinstance, not to be looked into -/
structure RIs (K : PySem.W.Frag) (vs : List V) (H : Hp) (Q : VK) : Prop where
  h : rIsi K vs H Q
theorem call_isiS {X : Cx} : CallR X (.builtin "isinstance") (RIs X.K) := fun pins s σ H xs us Q I r h => call_isi pins s σ H xs us Q I r h.h
theorem isi_of {T U : String} {b : Bool} (ty : TyX K H x (.type T)) (h : kitB T U = some b) (q : Q (.bl b) H) : RIs K [x, .ty U] H Q := ⟨⟨_, _, _, _, _, rfl, .ty U, ty, kit_ty h, q⟩⟩
theorem isi_int (i : Int) (q : Q (.bl true) H) : RIs K [.int i, .ty "int"] H Q := isi_of (.base (.int i)) (by decide +kernel) q
theorem isi_intb (i : Int) (q : Q (.bl false) H) : RIs K [.int i, .ty "bool"] H Q := isi_of (.base (.int i)) (by decide +kernel) q
theorem ty_tup {xs : List V} (h : SqT K H a xs) : TyX K H (.ref a) (.type "tuple") := by
  rcases h with (h | ⟨o, h⟩) | ⟨o, its, n, l, c, _⟩
  · exact .base (.tup h)
  · exact .fTuple h
  · exact .kTuple l c
theorem ty_lst {xs : List V} (h : SqL K H a xs) : TyX K H (.ref a) (.type "list") := by
  rcases h with (h | ⟨o, h⟩) | ⟨o, its, n, l, c, _⟩
  · exact .base (.lst h)
  · exact .base (.frz h)
  · exact .kList l c
/-- the name of a data's type -/
def tyName : PyData → String
  | .none => "NoneType"
  | .bool _ => "bool"
  | .int _ => "int"
  | .str _ => "str"
  | .list _ => "list"
  | .tuple _ => "tuple"
  | _ => ""
end
theorem ty_dp {K : PySem.W.Frag} {H : Hp} : ∀ {v : V} {d : PyData}, Dp K H v d → TyX K H v (.type (tyName d))
  | _, _, .non => .base .non
  | _, _, .bl b => .base (.bl b)
  | _, _, .int i => .base (.int i)
  | _, _, .str x => .base (.str x)
  | _, _, .lst h _ => ty_lst h
  | _, _, .tup h _ => ty_tup h
theorem isi_dp {K : PySem.W.Frag} {H : Hp} {Q : VK} {v : V} {d : PyData} {U : String} {b : Bool} (h : Dp K H v d) (e : kitB (tyName d) U = some b) (q : Q (.bl b) H) : RIs K [v, .ty U] H Q := isi_of (ty_dp h) e q
/-! ### the rules with K told (within a comprehension's block) -/
section
variable {X : Cx} {K : PySem.W.Frag}
theorem kix_list (h : X.K = K) : IxR X (rIxL K) := by subst h; exact ix_list
theorem kix_tup (h : X.K = K) : IxR X (rIxT K) := by subst h; exact ix_tup
theorem ksl_list (h : X.K = K) : SlR X (rSlL K) := by subst h; exact sl_list
theorem ksl_tup (h : X.K = K) : SlR X (rSlT K) := by subst h; exact sl_tup
theorem kcall_isiS (h : X.K = K) : CallR X (.builtin "isinstance") (RIs K) := by subst h; exact call_isiS
theorem kop_eqD (h : X.K = K) (hu : X.A.units + 64 < cLine) : OpR X (compareOp .Eq) (rEqD K) := by subst h; exact op_eqD hu
theorem kop_neD (h : X.K = K) (hu : X.A.units + 64 < cLine) : OpR X (compareOp .NotEq) (rNeD K) := by subst h; exact op_neD hu
theorem kop_in_seq (h : X.K = K) : OpR X (compareOp .In) (rIn K false) := by subst h; exact op_in_seq
theorem kop_notIn_seq (h : X.K = K) : OpR X (compareOp .NotIn) (rIn K true) := by subst h; exact op_notIn_seq
theorem kcall_len_seq (h : X.K = K) : CallR X (.builtin "len") (fun xs H Q => ∃ p ys, xs = [.ref p] ∧ (SqL K H p ys ∨ SqT K H p ys) ∧ Q (.int ys.length) H) := by subst h; exact call_len_seq
theorem kcall_tuple_of (h : X.K = K) : CallR X (.type "tuple") (fun xs H Q => ∃ p ys, xs = [.ref p] ∧ ((SqL K H p ys ∧ ∀ l, H l = none → Q (.ref l) (upd H l (.tup ys))) ∨ (SqT K H p ys ∧ Q (.ref p) H))) := by subst h; exact call_tuple_of
theorem kcall_list_of (h : X.K = K) : CallR X (.type "list") (fun xs H Q => ∃ p ys, xs = [.ref p] ∧ (SqL K H p ys ∨ SqT K H p ys) ∧ ∀ l, H l = none → Q (.ref l) (upd H l (.lst ys))) := by subst h; exact call_list_of
theorem kcr_sum (h : X.K = K) (hc : X.calm = true) : CallR X (.builtin "sum") (rSum K) := by subst h; exact cr_sum hc
theorem kcr_min (h : X.K = K) (hc : X.calm = true) : CallR X (.builtin "min") (rMin K) := by subst h; exact cr_min hc
theorem kcr_max (h : X.K = K) (hc : X.calm = true) : CallR X (.builtin "max") (rMax K) := by subst h; exact cr_max hc
theorem kcr_all (h : X.K = K) (hc : X.calm = true) : CallR X (.builtin "all") (rAll K) := by subst h; exact cr_all hc
theorem kcr_any (h : X.K = K) (hc : X.calm = true) : CallR X (.builtin "any") (rAny K) := by subst h; exact cr_any hc
theorem kop_catT (h : X.K = K) : OpR X (binaryOp .Add) (rCatT K) := by subst h; exact op_catT
variable {tg l e : Expr} {tl ta : TE} {f : Str} {pos : Pos}
theorem kpi_list (h : X.K = K) (hl : PE X l tl) : PI X tg l (iList K tl) := by subst h; exact pi_list hl
theorem kpi_tup (h : X.K = K) (hl : PE X l tl) : PI X tg l (iTup K tl) := by subst h; exact pi_tup hl
theorem kpe_fld (h : X.K = K) (he : PE X e ta) (hb : attributeBase e f X.env (eval e X.env) = eval e X.env) : PE X (.Attribute e f pos) (tFld K ta f) := by subst h; exact pe_fld he hb
theorem kpg_tup {es : List Expr} {k : Nat} {t : TGs} {n : Nat} (h : X.K = K) (hc : X.calm = true) (hp : PGs X es t) (hn : (assignEach es X.env).length = n := by rfl) (hst : (assignEach es X.env).findIdx? (·.1) = none := by rfl) : PG X (.Tuple es k pos) (gTup K n t) := by subst h; exact pg_tup hc hp hn hst
end
/-- a while by a word W that falls; Ex: what holds behind it -/
theorem while_ex {c : TT} {tb : TS} {D : Ends} {σ : L2.St} {H : Hp} (W : Nat → L2.St → Hp → Prop) (Ex : L2.St → Hp → Prop) (h0 : ∃ m, W m σ H)
    (hs : ∀ m σ H, W m σ H → ∀ Z : L2.St → Hp → Prop, (∀ σ' H', Ex σ' H' → Z σ' H') → c σ H fun b H1 => if b = true then ∃ N : L2.St → Hp → Prop, (∀ σ' H', N σ' H' → ∃ m', m' < m ∧ W m' σ' H') ∧ tb { D with nx := N, ct := N, bk := Z } σ H1 else Z σ H1)
    (hx : ∀ σ H, Ex σ H → D.nx σ H) : tWhile c tb D σ H := ⟨W, h0, fun m σ H h => hs m σ H h D.nx hx⟩
/-! ### comprehensions by a word over what is made -/
theorem walk_zipT {K : PySem.W.Frag} {a b : Addr} {xs ys : List V} {n : Nat} (hx : xs.length = n) (hy : ys.length = n) : Walk (RZ.ItzT K a b) n (fun H => SqT K H a xs ∧ SqT K H b ys) (YPair (fun i => xs[i]?) (fun i => ys[i]?)) where
  goes := fun i H hi h => ⟨xs, ys, _, _, h.1, h.2, List.getElem?_eq_getElem (by omega), List.getElem?_eq_getElem (by omega)⟩
  stops := fun H h => ⟨xs, ys, h.1, h.2, .inl (by omega)⟩
  yields := fun i H x H' _ h hy => by
    obtain ⟨T, y, z, rfl, hT, rfl, e1, e2⟩ := hy
    exact ⟨T, y, z, rfl, hT, rfl, e1 xs h.1, e2 ys h.2⟩
inductive Ers {α : Type} (Er : Hp → V → α → Prop) (H : Hp) : List V → List α → Prop
  | nil : Ers Er H [] []
  | cons {v : V} {a : α} {vs : List V} {l : List α} : Er H v a → Ers Er H vs l → Ers Er H (v :: vs) (a :: l)
section
variable {α : Type} {Er : Hp → V → α → Prop} {H H' : Hp}
theorem Ers.len : ∀ {vs : List V} {l : List α}, Ers Er H vs l → vs.length = l.length
  | _, _, .nil => rfl
  | _, _, .cons _ t => by rw [List.length_cons, List.length_cons, t.len]
theorem Ers.mono (m : ∀ y a, Er H y a → Er H' y a) : ∀ {vs : List V} {l : List α}, Ers Er H vs l → Ers Er H' vs l
  | _, _, .nil => .nil
  | _, _, .cons h t => .cons (m _ _ h) (t.mono m)
theorem Ers.mono' {Er' : Hp → V → α → Prop} (m : ∀ y a, Er H y a → Er' H y a) : ∀ {vs : List V} {l : List α}, Ers Er H vs l → Ers Er' H vs l
  | _, _, .nil => .nil
  | _, _, .cons h t => .cons (m _ _ h) (t.mono' m)
theorem Ers.snoc {y : V} {a : α} (h : Er H y a) : ∀ {vs : List V} {l : List α}, Ers Er H vs l → Ers Er H (vs ++ [y]) (l ++ [a])
  | _, _, .nil => .cons h .nil
  | _, _, .cons h' t => .cons h' (t.snoc h)
theorem Ers.app : ∀ {vs ws : List V} {l m : List α}, Ers Er H vs l → Ers Er H ws m → Ers Er H (vs ++ ws) (l ++ m)
  | _, _, _, _, .nil, h => h
  | _, _, _, _, .cons h t, u => .cons h (t.app u)
theorem Ers.get : ∀ {vs : List V} {l : List α} {i : Nat} {v : V}, Ers Er H vs l → vs[i]? = some v → ∃ a, l[i]? = some a ∧ Er H v a
  | _, _, _, _, .nil, h => by simp at h
  | _, _, 0, _, .cons h _, e => by simp at e; subst e; exact ⟨_, rfl, h⟩
  | _, _, i + 1, v, .cons _ t, e => by
    obtain ⟨d, h1, h2⟩ := Ers.get (i := i) (v := v) t (by simpa using e)
    exact ⟨d, by simpa using h1, h2⟩
/-- ints -/
def ErI : Hp → V → Int → Prop := fun _ y a => y = .int a
theorem Ers.ints {H : Hp} : ∀ {vs : List V} {l : List Int}, Ers ErI H vs l → vs = l.map V.int
  | _, _, .nil => rfl
  | _, _, .cons h t => by rw [List.map_cons, ← t.ints, show _ = V.int _ from h]
end
/-- [elt for .. if ..]: Rl how the heap goes on, Er what an item is, P the word over the items made so far -/
theorem lc_inv {α : Type} {J : It} {n : Nat} {G : Hp → Prop} {Y : Nat → Hp → V → Hp → Prop} (w : Walk J n G Y) (hn : n ≤ 100000) {g : TG} {tt : TT} {te : TE} {vs : List Nat} {σ : L2.St} {H1 : Hp} {D : Addr} {Qd : Hp → Prop}
    (Rl : Hp → Hp → Prop) (rr : ∀ H, Rl H H) (rt : ∀ H H' H'', Rl H H' → Rl H' H'' → Rl H H'') (rp : ∀ H o, Rl H1 H → Rl H1 (upd H D o)) (rk : ∀ H H' o, Rl H1 H → Rl H H' → H D = some o → H' D = some o)
    (Er : Hp → V → α → Prop) (em : ∀ H H' y a, Rl H1 H → Rl H H' → Er H y a → Er H' y a) (ep : ∀ H o y a, Rl H1 H → Er H y a → Er (upd H D o) y a)
    (P : Nat → List α → Prop) (h0 : P 0 []) (hG : ∀ H, Rl H1 H → G H)
    (hs : ∀ i x H H' l, i < n → Rl H1 H → (∃ acc, H D = some (.lst acc)) → P i l → Y i H x H' → ∀ (A : V → Hp → Prop) (B : Hp → Prop), (∀ y a H4, Rl H H4 → Er H4 y a → P (i + 1) (l ++ [a]) → A y H4) → (∀ H3, Rl H H3 → P (i + 1) l → B H3) →
      g x (wipe σ vs) H' fun σ2 H2 => wipe σ2 vs = wipe σ vs ∧ tt σ2 H2 fun b H3 => if b = true then te σ2 H3 A else B H3)
    (hd : ∀ H' us l, Rl H1 H' → H' D = some (.lst us) → Ers Er H' us l → P n l → Qd H') :
    ∃ W : Nat → Nat → Hp → Prop, (∃ m, W 0 m (upd H1 D (.lst []))) ∧ ∀ i m H, W i m H → (J.stop i H ∧ Qd H) ∨ (J.go i H ∧ ∃ Nx : Hp → Prop, (∀ H', Nx H' → ∃ m', m' < m ∧ W (i + 1) m' H') ∧ ∀ x H', J.yld i H x H' → g x (wipe σ vs) H' fun σ2 H2 => wipe σ2 vs = wipe σ vs ∧ tt σ2 H2 fun b H3 => if b = true then te σ2 H3 fun y H4 => ∃ acc, H4 D = some (.lst acc) ∧ acc.length < sizeLine ∧ Nx (upd H4 D (.lst (acc ++ [y]))) else Nx H3) := by
  refine lc_it w (fun i H => Rl H1 H ∧ ∃ us l, H D = some (.lst us) ∧ Ers Er H us l ∧ P i l ∧ l.length ≤ i) ⟨rp _ _ (rr _), [], [], upd_same, .nil, h0, Nat.le_refl _⟩ (fun i H _ h => hG H h.1) ?_ ?_
  · rintro i x H H' hi ⟨r, us, l, hD, hE, hP, hl⟩ hy
    refine hs i x H H' l hi r ⟨_, hD⟩ hP hy _ _ (fun y a H4 r4 e4 p4 => ?_) (fun H3 r3 p3 => ?_)
    · have r14 := rt _ _ _ r r4
      refine ⟨us, rk _ _ _ r r4 hD, ?_, rp _ _ r14, us ++ [y], l ++ [a], upd_same, ?_, p4, by rw [List.length_append]; exact Nat.succ_le_succ hl⟩
      · rw [hE.len]
        exact Nat.lt_of_le_of_lt (Nat.le_trans hl (Nat.le_trans (Nat.le_of_lt hi) hn)) (by decide)
      · exact (((hE.mono fun y a h => em _ _ y a r r4 h).snoc e4).mono fun y a h => ep _ _ y a r14 h)
    · exact ⟨rt _ _ _ r r3, us, l, rk _ _ _ r r3 hD, hE.mono fun y a h => em _ _ y a r r3 h, p3, Nat.le_succ_of_le hl⟩
  · rintro H ⟨r, us, l, hD, hE, hP, _⟩
    exact hd H us l r hD hE hP
theorem t_yes {σ : L2.St} {H : Hp} {P1 P2 : Hp → Prop} (h : P1 H) : tYes σ H (fun b H3 => if b = true then P1 H3 else P2 H3) := by
  show (if true = true then P1 H else P2 H)
  rw [if_pos rfl]
  exact h
/-- the same where the heap only grows -/
theorem lc_same {α : Type} {J : It} {n : Nat} {G : Hp → Prop} {Y : Nat → Hp → V → Hp → Prop} (w : Walk J n G Y) (hn : n ≤ 100000) {g : TG} {tt : TT} {te : TE} {vs : List Nat} {σ : L2.St} {H1 : Hp} {D : Addr} {Qd : Hp → Prop} (hD : H1 D = none)
    (Er : Hp → V → α → Prop) (em : ∀ H H' y a, Same H1 H → Same H H' → Er H y a → Er H' y a) (ep : ∀ H o y a, Same H1 H → Er H y a → Er (upd H D o) y a)
    (P : Nat → List α → Prop) (h0 : P 0 []) (hG : ∀ H, Same H1 H → G H)
    (hs : ∀ i x H H' l, i < n → Same H1 H → (∃ acc, H D = some (.lst acc)) → P i l → Y i H x H' → ∀ (A : V → Hp → Prop) (B : Hp → Prop), (∀ y a H4, Same H H4 → Er H4 y a → P (i + 1) (l ++ [a]) → A y H4) → (∀ H3, Same H H3 → P (i + 1) l → B H3) →
      g x (wipe σ vs) H' fun σ2 H2 => wipe σ2 vs = wipe σ vs ∧ tt σ2 H2 fun b H3 => if b = true then te σ2 H3 A else B H3)
    (hd : ∀ H' us l, Same H1 H' → H' D = some (.lst us) → Ers Er H' us l → P n l → Qd H') :
    ∃ W : Nat → Nat → Hp → Prop, (∃ m, W 0 m (upd H1 D (.lst []))) ∧ ∀ i m H, W i m H → (J.stop i H ∧ Qd H) ∨ (J.go i H ∧ ∃ Nx : Hp → Prop, (∀ H', Nx H' → ∃ m', m' < m ∧ W (i + 1) m' H') ∧ ∀ x H', J.yld i H x H' → g x (wipe σ vs) H' fun σ2 H2 => wipe σ2 vs = wipe σ vs ∧ tt σ2 H2 fun b H3 => if b = true then te σ2 H3 fun y H4 => ∃ acc, H4 D = some (.lst acc) ∧ acc.length < sizeLine ∧ Nx (upd H4 D (.lst (acc ++ [y]))) else Nx H3) :=
  lc_inv w hn Same Same.refl (fun _ _ _ a b => a.trans b) (fun H o h => same_mut h hD) (fun _ _ o _ h e => h _ _ e) Er em ep P h0 hG hs hd
end Hl

namespace K55
open PySem PySem.Spec PyProof.Rows L2 Hl
def top (i : Nat) : Stmt := PySem.Challenge.pw_piecesapart_k55_whole_the_least_counts.main.body.getD i (.Pass ⟨0, 0, 0, 0⟩)
abbrev s_is_integer : Stmt := top 4
abbrev N_is_integer : List Str := ["value"]
theorem sc_is_integer : FnScope N_is_integer ["value"] (defScope s_is_integer) := ⟨rfl, rfl, rfl, by decide +kernel, rfl, by decide +kernel, by decide +kernel⟩
abbrev s_is_number : Stmt := top 5
abbrev N_is_number : List Str := ["value", "most"]
theorem sc_is_number : FnScope N_is_number ["value", "most"] (defScope s_is_number) := ⟨rfl, rfl, rfl, by decide +kernel, rfl, by decide +kernel, by decide +kernel⟩
abbrev s_Numbers_init : Stmt := inClass (top 10) 0
abbrev N_Numbers_init : List Str := ["self", "k", "f", "d", "m", "w1", "w2", "g", "place", "many"]
theorem sc_Numbers_init : FnScope N_Numbers_init ["self", "k", "f", "d", "m", "w1", "w2", "g"] (defScope s_Numbers_init) := ⟨rfl, rfl, rfl, by decide +kernel, rfl, by decide +kernel, by decide +kernel⟩
abbrev s_token_size : Stmt := top 12
abbrev N_token_size : List Str := ["size", "mark", "m"]
theorem sc_token_size : FnScope N_token_size ["size", "mark", "m"] (defScope s_token_size) := ⟨rfl, rfl, rfl, by decide +kernel, rfl, by decide +kernel, by decide +kernel⟩
abbrev s_least_counts : Stmt := top 13
abbrev N_least_counts : List Str := ["f", "spread", "m", "both"]
theorem sc_least_counts : FnScope N_least_counts ["f", "spread", "m"] (defScope s_least_counts) := ⟨rfl, rfl, rfl, by decide +kernel, rfl, by decide +kernel, by decide +kernel⟩
abbrev s_least_numbers : Stmt := top 14
abbrev N_least_numbers : List Str := ["f", "spread", "d", "m", "k", "g", "r"]
theorem sc_least_numbers : FnScope N_least_numbers ["f", "spread", "d", "m"] (defScope s_least_numbers) := ⟨rfl, rfl, rfl, by decide +kernel, rfl, by decide +kernel, by decide +kernel⟩
abbrev s_cost_of : Stmt := top 15
abbrev N_cost_of : List Str := ["f", "spread", "m", "size", "mark", "prices", "counts", "count", "price"]
theorem sc_cost_of : FnScope N_cost_of ["f", "spread", "m", "size", "mark", "prices"] (defScope s_cost_of) := ⟨rfl, rfl, rfl, by decide +kernel, rfl, by decide +kernel, by decide +kernel⟩
abbrev s_best_m : Stmt := top 16
abbrev N_best_m : List Str := ["f", "spread", "size", "mark", "prices", "best", "m", "cost"]
theorem sc_best_m : FnScope N_best_m ["f", "spread", "size", "mark", "prices"] (defScope s_best_m) := ⟨rfl, rfl, rfl, by decide +kernel, rfl, by decide +kernel, by decide +kernel⟩
abbrev s__law_heap : Stmt := top 18
abbrev N__law_heap : List Str := ["script", "cells", "stir", "cell"]
theorem sc__law_heap : FnScope N__law_heap ["script"] (defScope s__law_heap) := ⟨rfl, rfl, rfl, by decide +kernel, rfl, by decide +kernel, by decide +kernel⟩
abbrev s__law_draw : Stmt := top 19
abbrev N__law_draw : List Str := ["heap", "many", "rest"]
theorem sc__law_draw : FnScope N__law_draw ["heap", "many"] (defScope s__law_draw) := ⟨rfl, rfl, rfl, by decide +kernel, rfl, by decide +kernel, by decide +kernel⟩
abbrev s__law_pick : Stmt := top 20
abbrev N__law_pick : List Str := ["heap", "some"]
theorem sc__law_pick : FnScope N__law_pick ["heap", "some"] (defScope s__law_pick) := ⟨rfl, rfl, rfl, by decide +kernel, rfl, by decide +kernel, by decide +kernel⟩
abbrev s__law_same : Stmt := top 21
abbrev N__law_same : List Str := ["value", "due", "one", "other"]
theorem sc__law_same : FnScope N__law_same ["value", "due"] (defScope s__law_same) := ⟨rfl, rfl, rfl, by decide +kernel, rfl, by decide +kernel, by decide +kernel⟩
abbrev s__law_whole : Stmt := top 22
abbrev N__law_whole : List Str := ["value", "top"]
theorem sc__law_whole : FnScope N__law_whole ["value", "top"] (defScope s__law_whole) := ⟨rfl, rfl, rfl, by decide +kernel, rfl, by decide +kernel, by decide +kernel⟩
abbrev s__law_is_safe : Stmt := top 23
abbrev N__law_is_safe : List Str := ["row", "spread", "k", "f", "d", "m", "w1", "w2", "g"]
theorem sc__law_is_safe : FnScope N__law_is_safe ["row", "spread"] (defScope s__law_is_safe) := ⟨rfl, rfl, rfl, by decide +kernel, rfl, by decide +kernel, by decide +kernel⟩
abbrev s__law_sees : Stmt := top 24
abbrev N__law_sees : List Str := ["row", "spread", "r", "k", "f", "d", "m", "w1", "w2", "g", "near"]
theorem sc__law_sees : FnScope N__law_sees ["row", "spread", "r"] (defScope s__law_sees) := ⟨rfl, rfl, rfl, by decide +kernel, rfl, by decide +kernel, by decide +kernel⟩
abbrev s__law_plain_numbers : Stmt := top 25
abbrev N__law_plain_numbers : List Str := ["numbers"]
theorem sc__law_plain_numbers : FnScope N__law_plain_numbers ["numbers"] (defScope s__law_plain_numbers) := ⟨rfl, rfl, rfl, by decide +kernel, rfl, by decide +kernel, by decide +kernel⟩
abbrev s__law_token : Stmt := top 26
abbrev N__law_token : List Str := ["size", "mark", "m"]
theorem sc__law_token : FnScope N__law_token ["size", "mark", "m"] (defScope s__law_token) := ⟨rfl, rfl, rfl, by decide +kernel, rfl, by decide +kernel, by decide +kernel⟩
abbrev s__law_cost : Stmt := top 27
abbrev N__law_cost : List Str := ["counts", "size", "mark", "m", "prices"]
theorem sc__law_cost : FnScope N__law_cost ["counts", "size", "mark", "m", "prices"] (defScope s__law_cost) := ⟨rfl, rfl, rfl, by decide +kernel, rfl, by decide +kernel, by decide +kernel⟩
abbrev s__law_counts : Stmt := top 28
abbrev N__law_counts : List Str := ["f", "spread", "m", "both"]
theorem sc__law_counts : FnScope N__law_counts ["f", "spread", "m"] (defScope s__law_counts) := ⟨rfl, rfl, rfl, by decide +kernel, rfl, by decide +kernel, by decide +kernel⟩
abbrev s__law_a_size : Stmt := top 29
abbrev N__law_a_size : List Str := ["heap"]
theorem sc__law_a_size : FnScope N__law_a_size ["heap"] (defScope s__law_a_size) := ⟨rfl, rfl, rfl, by decide +kernel, rfl, by decide +kernel, by decide +kernel⟩
abbrev s__law_all_counts : Stmt := top 30
abbrev N__law_all_counts : List Str := ["f", "spread", "m", "found", "k", "most", "w2", "g", "row", "some", "r"]
theorem sc__law_all_counts : FnScope N__law_all_counts ["f", "spread", "m"] (defScope s__law_all_counts) := ⟨rfl, rfl, rfl, by decide +kernel, rfl, by decide +kernel, by decide +kernel⟩
abbrev s__law_least_right : Stmt := top 31
abbrev N__law_least_right : List Str := ["heap", "f", "spread", "m", "size", "mark", "prices", "found", "due", "d", "numbers", "cost", "least", "row", "costs", "one", "at"]
theorem sc__law_least_right : FnScope N__law_least_right ["heap", "f", "spread", "m", "size", "mark", "prices"] (defScope s__law_least_right) := ⟨rfl, rfl, rfl, by decide +kernel, rfl, by decide +kernel, by decide +kernel⟩
abbrev s__law_best_right : Stmt := top 32
abbrev N__law_best_right : List Str := ["f", "spread", "size", "mark", "prices", "best", "m", "counts", "cost"]
theorem sc__law_best_right : FnScope N__law_best_right ["f", "spread", "size", "mark", "prices"] (defScope s__law_best_right) := ⟨rfl, rfl, rfl, by decide +kernel, rfl, by decide +kernel, by decide +kernel⟩
abbrev s_law : Stmt := top 33
abbrev N_law : List Str := ["script", "heap", "f", "spread", "m", "prices", "size", "mark", "turn"]
theorem sc_law : FnScope N_law ["script"] (defScope s_law) := ⟨rfl, rfl, rfl, by decide +kernel, rfl, by decide +kernel, by decide +kernel⟩
/-- what the top has written -/
structure Txt (K : PySem.W.Frag) (mg : Str → Option Value) where
  isinstance : mg "isinstance" = none
  int : mg "int" = none
  bool : mg "bool" = none
  tuple : mg "tuple" = none
  range : mg "range" = none
  zip : mg "zip" = none
  enumerate : mg "enumerate" = none
  len : mg "len" = none
  abs : mg "abs" = none
  min : mg "min" = none
  max : mg "max" = none
  sum : mg "sum" = none
  t1 : Tok
  c_MOST_COPIES : mg "MOST_COPIES" = some (.int 12 t1)
  t2 : Tok
  c_MOST_LAG : mg "MOST_LAG" = some (.int 200 t2)
  t3 : Tok
  c_MOST_PIECES : mg "MOST_PIECES" = some (.int 6 t3)
  C_Numbers : Addr
  fI : Addr
  m_Numbers : mg "Numbers" = some (.ref C_Numbers)
  mk_Numbers : Mk K C_Numbers fI
  cl : Cls K C_Numbers
  nk : NoAttr K C_Numbers "k"
  nf : NoAttr K C_Numbers "f"
  nd : NoAttr K C_Numbers "d"
  nm : NoAttr K C_Numbers "m"
  nw1 : NoAttr K C_Numbers "w1"
  nw2 : NoAttr K C_Numbers "w2"
  ng : NoAttr K C_Numbers "g"
  i1 : PySem.W.findIn K (.ref C_Numbers) "__class__" = some (some (.builtin "object.__class__"))
  i2 : PySem.W.specialIn K (.builtin "object.__class__") "__get__" = some (some (.builtin "getset_descriptor.__get__"))
  i3 : PySem.W.takesIn K (.builtin "object.__class__") = some true
  i4 : PySem.W.mroIn K C_Numbers (.type "object") = some true
  i5 : PySem.W.kitOne K (.ref C_Numbers) (.ref C_Numbers) = some true

section
variable {P : Program} {w : World} {K : PySem.W.Frag} {mg : Str → Option Value} {base : Heap}

/-! ### the program -/
def sp_is_integer : Sp := fun vs H Q _ => ∃ i : Int, vs = [.int i] ∧ Q (.bl true) H
theorem ok_is_integer {f : Addr} {fd : FuncData} (F : Fun K "is_integer" "is_integer" s_is_integer f fd) (T : Txt K mg) : FnOk P w K mg base CX0 1 f fd ["value"] sp_is_integer := by
  refine F.ok sc_is_integer (fun vs H Q E h => ?_) (fun cdv A outer s H vs Q E hr h => ?_)
  · obtain ⟨i, rfl, _⟩ := h
    rfl
  · obtain ⟨i, rfl, q⟩ := h
    refine ⟨_, (pss_one (ps_ret (pe_and (pe_callB call_isiS (by rfl) T.isinstance (by decide +kernel) (pa_cons (pv 0) (pa_cons (pe_ty "int" (by rfl) T.int) pa_nil))) (pe_one (pe_not (pe_callB call_isiS (by rfl) T.isinstance (by decide +kernel) (pa_cons (pv 0) (pa_cons (pe_ty "bool" (by rfl) T.bool) pa_nil)))))))), ?_⟩
    refine ⟨_, rfl, isi_int _ ⟨_, rfl, iteT ⟨_, rfl, isi_intb _ ⟨_, rfl, q⟩⟩⟩⟩

def sp_token_size : Sp := fun vs H Q _ => ∃ size mark m : Int, vs = [.int size, .int mark, .int m] ∧ 0 < m ∧ m < 100 ∧ Q (.int ((size + m - 1) / m + mark)) H
theorem ok_token_size {f : Addr} {fd : FuncData} (F : Fun K "token_size" "token_size" s_token_size f fd) (T : Txt K mg) : FnOk P w K mg base CX0 1 f fd ["size", "mark", "m"] sp_token_size := by
  refine F.ok sc_token_size (fun vs H Q E h => ?_) (fun cdv A outer s H vs Q E hr h => ?_)
  · obtain ⟨_, _, _, rfl, _⟩ := h
    rfl
  · obtain ⟨size, mark, m, rfl, m0, m1, q⟩ := h
    refine ⟨_, (pss_one (ps_ret (pe_op op_add (pe_op op_fdivN (pe_op op_sub (pe_op op_add (pv 0) (pv 2)) pe_int) (pv 2)) (pv 1)))), ?_⟩
    refine ⟨_, rfl, _, rfl, _, _, rfl, rfl, _, _, rfl, rfl, _, rfl, _, _, rfl, rfl, ⟨by omega, by omega⟩, _, rfl, _, _, rfl, rfl, ?_⟩
    rw [Int.fdiv_eq_ediv_of_nonneg _ (by omega)]
    exact q

def sp_is_number : Sp := fun vs H Q _ => ∃ i most : Int, vs = [.int i, .int most] ∧ 0 ≤ i ∧ i ≤ most ∧ Q (.bl true) H
theorem ok_is_number {f : Addr} {fd : FuncData} (F : FunD K "is_number" "is_number" (defArgs s_is_number) (defBody s_is_number) (defScope s_is_number) [.non] [] f fd) (T : Txt K mg) (D_is_integer : Df P w K mg base 1 "is_integer" ["value"] sp_is_integer) : FnOk P w K mg base CX0 2 f fd ["value", "most"] sp_is_number := by
  refine F.ok sc_is_number (fun vs H Q E h => ?_) (fun cdv A outer s H vs Q E hr h => ?_)
  · obtain ⟨_, _, rfl, _⟩ := h
    rfl
  · obtain ⟨i, most, rfl, h0, h1, q⟩ := h
    refine ⟨_, (pss_one (ps_ret (pe_and (pe_call D_is_integer.ok (hr.mono (by decide)) (by rfl) D_is_integer.m D_is_integer.kp D_is_integer.b .nil pass0 (pa_cons (pv 0) pa_nil)) (pe_and (pe_cmpR op_ge (pv 0) pe_int (nomark _)) (pe_one (pe_or (pe_cmpR op_isN (pv 1) pe_non (nomark _)) (pe_one (pe_cmpR op_le (pv 0) (pv 1) (nomark _))))))))), ?_⟩
    refine ⟨_, rfl, i, rfl, _, rfl, iteT ⟨_, rfl, _, _, rfl, rfl, _, rfl, ite_dec (fun _ => ?_) (fun z => (z h0).elim)⟩⟩
    refine ⟨_, rfl, rfl, _, rfl, iteF ⟨_, rfl, _, rfl, _, _, rfl, rfl, ?_⟩⟩
    show Q (.bl (decide (i ≤ most))) H
    rw [decide_eq_true h1]
    exact q

theorem putlen {f : Str} {v : V} {fs : List (Str × V)} {n : Nat} (h : fs.length ≤ n) : (putF f v fs).length ≤ n + 1 := Nat.le_trans (length_putF f v fs) (Nat.succ_le_succ h)
theorem lt1000 {n m : Nat} (h : n ≤ m) (hm : m < 1000 := by decide) : n < 1000 := Nat.lt_of_le_of_lt h hm
/-- the fields of numbers -/
def numF (k f d m w1 w2 g : Int) : List (Str × V) := putF "g" (.int g) (putF "w2" (.int w2) (putF "w1" (.int w1) (putF "m" (.int m) (putF "d" (.int d) (putF "f" (.int f) (putF "k" (.int k) []))))))
def sp_Numbers_init (C : Addr) : Sp := fun vs H Q _ => ∃ (x dx : Addr) (k f d m w1 w2 g : Int), vs = [.ref x, .int k, .int f, .int d, .int m, .int w1, .int w2, .int g] ∧ H x = some (.ins C dx []) ∧
  (1 ≤ k ∧ k ≤ 12) ∧ (0 ≤ f ∧ f ≤ k) ∧ (1 ≤ d ∧ d ≤ 200) ∧ (1 ≤ m ∧ m ≤ k ∧ m ≤ 6) ∧ (1 ≤ w1 ∧ w1 ≤ k) ∧ (1 ≤ w2 ∧ w2 ≤ k) ∧ (1 ≤ g ∧ g ≤ k) ∧
  ∀ H' : Hp, (∀ b o, b ≠ x → H b = some o → H' b = some o) → H' x = some (.ins C dx (numF k f d m w1 w2 g)) → Q .non H'
theorem ok_Numbers_init {f : Addr} {fd : FuncData} (F : Fun K "__init__" "Numbers.__init__" s_Numbers_init f fd) (T : Txt K mg) (D_is_number : Df P w K mg base 2 "is_number" ["value", "most"] sp_is_number) : FnOk P w K mg base CX0 3 f fd ["self", "k", "f", "d", "m", "w1", "w2", "g"] (sp_Numbers_init T.C_Numbers) := by
  refine F.ok sc_Numbers_init (fun vs H Q E h => ?_) (fun cdv A outer s H vs Q E hr h => ?_)
  · obtain ⟨_, _, _, _, _, _, _, _, _, rfl, _⟩ := h
    rfl
  · obtain ⟨x, dx, k, f, d, m, w1, w2, g, rfl, hx, hk, hf, hd, hm, hw1, hw2, hg, q⟩ := h
    refine ⟨_, (pss_cons (ps_if (PW.pt (pw_or (pt_not (pt_val (pe_call D_is_number.ok (hr.mono (by decide)) (by rfl) D_is_number.m D_is_number.kp D_is_number.b .nil pass0 (pa_cons (pv 1) (pa_cons (pe_glob (v := .int 12) (by rfl) T.c_MOST_COPIES ⟨_, rfl⟩) pa_nil))))) (pw_or1 (pt_cmpR op_eq (pv 1) pe_int (nomark _)))))
  (pss_one ps_never)
  pss_nil)
  (pss_cons (ps_if (pt_not (pt_val (pe_call D_is_number.ok (hr.mono (by decide)) (by rfl) D_is_number.m D_is_number.kp D_is_number.b .nil pass0 (pa_cons (pv 2) (pa_cons (pv 1) pa_nil)))))
  (pss_one ps_never)
  pss_nil)
  (pss_cons (ps_if (PW.pt (pw_or (pt_not (pt_val (pe_call D_is_number.ok (hr.mono (by decide)) (by rfl) D_is_number.m D_is_number.kp D_is_number.b .nil pass0 (pa_cons (pv 3) (pa_cons (pe_glob (v := .int 200) (by rfl) T.c_MOST_LAG ⟨_, rfl⟩) pa_nil))))) (pw_or1 (pt_cmpR op_eq (pv 3) pe_int (nomark _)))))
  (pss_one ps_never)
  pss_nil)
  (pss_cons (ps_if (PW.pt (pw_or (pt_not (pt_val (pe_call D_is_number.ok (hr.mono (by decide)) (by rfl) D_is_number.m D_is_number.kp D_is_number.b .nil pass0 (pa_cons (pv 4) (pa_cons (pe_callB (call_min2 rfl) (by rfl) T.min (by decide +kernel) (pa_cons (pv 1) (pa_cons (pe_glob (v := .int 6) (by rfl) T.c_MOST_PIECES ⟨_, rfl⟩) pa_nil))) pa_nil))))) (pw_or1 (pt_cmpR op_eq (pv 4) pe_int (nomark _)))))
  (pss_one ps_never)
  pss_nil)
  (pss_cons (ps_for PassesOwn.never rfl (pi_enumT (by rfl) T.enumerate (pa_cons (pe_tup (pa_cons (pv 5) (pa_cons (pv 6) (pa_cons (pv 7) pa_nil)))) pa_nil)) (pg_tup rfl (pgs_cons (pg_name (i := 8) sc_Numbers_init.nd rfl (by first | exact Or.inl rfl | exact Or.inr rfl)) (pgs_cons (pg_name (i := 9) sc_Numbers_init.nd rfl (by first | exact Or.inl rfl | exact Or.inr rfl)) pgs_nil)))
  (pss_one (ps_if (PW.pt (pw_or (pt_not (pt_val (pe_call D_is_number.ok (hr.mono (by decide)) (by rfl) D_is_number.m D_is_number.kp D_is_number.b .nil pass0 (pa_cons (pv 9) (pa_cons (pv 1) pa_nil))))) (pw_or1 (pt_cmpR op_eq (pv 9) pe_int (nomark _)))))
  (pss_one ps_never)
  pss_nil)))
  (pss_cons (ps_fld (pv 0) (pv 1) rfl)
  (pss_cons (ps_fld (pv 0) (pv 2) rfl)
  (pss_cons (ps_fld (pv 0) (pv 3) rfl)
  (pss_cons (ps_fld (pv 0) (pv 4) rfl)
  (pss_cons (ps_fld (pv 0) (pv 5) rfl)
  (pss_cons (ps_fld (pv 0) (pv 6) rfl)
  (pss_one (ps_fld (pv 0) (pv 7) rfl))))))))))))), ?_⟩
    have ne0 : ∀ {i : Int} {A B : Prop}, 1 ≤ i → B → if decide (V.int i = V.int 0) = true then A else B := fun hi hB => ite_dec (fun z => by injection z; omega) fun _ => hB
    refine ⟨_, rfl, k, 12, rfl, by omega, by omega, _, rfl, iteF ⟨_, rfl, rfl, _, rfl, ne0 hk.1 ?_⟩⟩
    refine ⟨_, rfl, _, rfl, f, k, rfl, by omega, by omega, _, rfl, iteF ?_⟩
    refine ⟨_, rfl, d, 200, rfl, by omega, by omega, _, rfl, iteF ⟨_, rfl, rfl, _, rfl, ne0 hd.1 ?_⟩⟩
    refine ⟨_, rfl, _, rfl, _, _, rfl, ?_⟩
    refine ⟨m, _, rfl, by omega, by split <;> omega, _, rfl, iteF ⟨_, rfl, rfl, _, rfl, ne0 hm.1 ?_⟩⟩
    refine ⟨_, rfl, _, rfl, _, rfl, (by show 3 ≤ sizeLine; decide), fun t ht => ⟨t, _, rfl, SqT.of upd_same, ?_⟩⟩
    refine for_it (walk_enumT (xs := [.int w1, .int w2, .int g])) (fun i σ H' => ∃ a b, σ = [some (.ref x), some (.int k), some (.int f), some (.int d), some (.int m), some (.int w1), some (.int w2), some (.int g), a, b] ∧ Same (upd H t (.tup [.int w1, .int w2, .int g])) H')
      ⟨none, none, rfl, Same.refl _⟩ (fun i σ H' _ ⟨_, _, _, sm⟩ => SqT.of (sm _ _ upd_same)) ?_ ?_
    · rintro i y σ H1 H2 hi ⟨a, b, rfl, sm⟩ ⟨T', y1, y2, rfl, hT, rfl, e1, e2⟩
      obtain ⟨z, rfl, hz1, hz2⟩ : ∃ z : Int, y2 = .int z ∧ 1 ≤ z ∧ z ≤ k := by
        match i, hi, e2 with
        | 0, _, e2 => exact ⟨w1, (Option.some.inj e2).symm, hw1⟩
        | 1, _, e2 => exact ⟨w2, (Option.some.inj e2).symm, hw2⟩
        | 2, _, e2 => exact ⟨g, (Option.some.inj e2).symm, hg⟩
        | n + 3, h, _ => simp at h; omega
      refine ⟨T', _, rfl, SqT.of upd_same, rfl, y1, _, rfl, .int z, [], rfl, rfl, ?_⟩
      refine ⟨_, rfl, _, rfl, z, k, rfl, by omega, by omega, _, rfl, iteF ⟨_, rfl, rfl, _, rfl, ne0 hz1 ?_⟩⟩
      exact ⟨_, _, rfl, sm.trans (same_new hT)⟩
    · rintro σ H1 ⟨a, b, rfl, sm⟩
      have nxt : x ≠ t := ne_of_none hx ht
      have hx1 : H1 x = some (.ins T.C_Numbers dx []) := sm _ _ (by rw [upd_ne nxt]; exact hx)
      refine ⟨_, rfl, _, rfl, x, T.C_Numbers, dx, _, rfl, hx1, T.cl, T.nk, (lt1000 (Nat.zero_le 0)), ?_⟩
      refine ⟨_, rfl, _, rfl, x, T.C_Numbers, dx, _, rfl, upd_same, T.cl, T.nf, (lt1000 (putlen (Nat.zero_le 0))), ?_⟩
      refine ⟨_, rfl, _, rfl, x, T.C_Numbers, dx, _, rfl, upd_same, T.cl, T.nd, (lt1000 (putlen (putlen (Nat.zero_le 0)))), ?_⟩
      refine ⟨_, rfl, _, rfl, x, T.C_Numbers, dx, _, rfl, upd_same, T.cl, T.nm, (lt1000 (putlen (putlen (putlen (Nat.zero_le 0))))), ?_⟩
      refine ⟨_, rfl, _, rfl, x, T.C_Numbers, dx, _, rfl, upd_same, T.cl, T.nw1, (lt1000 (putlen (putlen (putlen (putlen (Nat.zero_le 0)))))), ?_⟩
      refine ⟨_, rfl, _, rfl, x, T.C_Numbers, dx, _, rfl, upd_same, T.cl, T.nw2, (lt1000 (putlen (putlen (putlen (putlen (putlen (Nat.zero_le 0))))))), ?_⟩
      refine ⟨_, rfl, _, rfl, x, T.C_Numbers, dx, _, rfl, upd_same, T.cl, T.ng, (lt1000 (putlen (putlen (putlen (putlen (putlen (putlen (Nat.zero_le 0)))))))), ?_⟩
      refine q _ (fun b o hb hH => ?_) upd_same
      rw [upd_ne hb, upd_ne hb, upd_ne hb, upd_ne hb, upd_ne hb, upd_ne hb, upd_ne hb]
      exact sm _ _ (same_new ht _ _ hH)

def sp_least_counts : Sp := fun vs H Q _ => ∃ f spread m : Int, vs = [.int f, .int spread, .int m] ∧
  ∀ p, H p = none → Q (.ref p) (upd H p (.tup [.int (f + (2 * f + spread + m)), .int (if 0 < spread then 2 * f + spread + m else 1), .int (2 * f + spread + m)]))
theorem ok_least_counts {f : Addr} {fd : FuncData} (F : Fun K "least_counts" "least_counts" s_least_counts f fd) (T : Txt K mg) : FnOk P w K mg base CX0 1 f fd ["f", "spread", "m"] sp_least_counts := by
  refine F.ok sc_least_counts (fun vs H Q E h => ?_) (fun cdv A outer s H vs Q E hr h => ?_)
  · obtain ⟨_, _, _, rfl, _⟩ := h
    rfl
  · obtain ⟨f, spread, m, rfl, q⟩ := h
    refine ⟨_, (pss_cons (ps_set (i := 3) sc_least_counts.nd rfl (by first | exact Or.inl rfl | exact Or.inr rfl) (pe_op op_add (pe_op op_add (pe_op op_mul pe_int (pv 0)) (pv 1)) (pv 2)))
  (pss_one (ps_ret (pe_tup (pa_cons (pe_op op_add (pv 0) (pv 3)) (pa_cons (pe_ifExp (pt_cmpR op_gt (pv 1) pe_int (nomark _)) (pv 3) pe_int) (pa_cons (pv 3) pa_nil))))))), ?_⟩
    refine ⟨_, rfl, _, _, rfl, rfl, .inl ⟨by decide, by decide⟩, _, rfl, _, _, rfl, rfl, _, rfl, _, _, rfl, rfl, ?_⟩
    refine ⟨_, rfl, _, rfl, _, _, rfl, rfl, _, rfl, _, _, rfl, rfl, _, rfl, ite_dec (fun z => ?_) (fun z => ?_)⟩
    · refine ⟨_, rfl, _, rfl, (by show 3 ≤ sizeLine; decide), fun p hp => ?_⟩
      have := q p hp
      rw [if_pos z] at this
      exact this
    · refine ⟨_, rfl, (by show 3 ≤ sizeLine; decide), fun p hp => ?_⟩
      have := q p hp
      rw [if_neg z] at this
      exact this

/-- numbers at an address -/
def NumAt (C : Addr) (H : Hp) (p : Addr) (k f d m w1 w2 g : Int) : Prop := ∃ dx, H p = some (.ins C dx (numF k f d m w1 w2 g))
def sp_least_numbers (C : Addr) : Sp := fun vs H Q _ => ∃ f spread d m : Int, vs = [.int f, .int spread, .int d, .int m] ∧ 0 ≤ f ∧ 0 ≤ spread ∧ 1 ≤ m ∧ m ≤ 6 ∧ 1 ≤ d ∧ d ≤ 200 ∧
  (f + (2 * f + spread + m) ≤ 12 → ∀ p H', Same H H' → H p = none → NumAt C H' p (f + (2 * f + spread + m)) f d m (2 * f + spread + m) (2 * f + spread + m) (if 0 < spread then 2 * f + spread + m else 1) → Q (.ref p) H') ∧
  (12 < f + (2 * f + spread + m) → ∀ H', Same H H' → Q .non H')
theorem ok_least_numbers {f : Addr} {fd : FuncData} (F : Fun K "least_numbers" "least_numbers" s_least_numbers f fd) (T : Txt K mg) (D_least_counts : Df P w K mg base 1 "least_counts" ["f", "spread", "m"] sp_least_counts)
    {fdI : FuncData} (GI_Numbers : FnOk P w K mg base CX0 3 T.fI fdI ["self", "k", "f", "d", "m", "w1", "w2", "g"] (sp_Numbers_init T.C_Numbers)) (bI_Numbers : Binds K fdI ["self", "k", "f", "d", "m", "w1", "w2", "g"] []) :
    FnOk P w K mg base CX0 5 f fd ["f", "spread", "d", "m"] (sp_least_numbers T.C_Numbers) := by
  refine F.ok sc_least_numbers (fun vs H Q E h => ?_) (fun cdv A outer s H vs Q E hr h => ?_)
  · obtain ⟨_, _, _, _, rfl, _⟩ := h
    rfl
  · obtain ⟨f, spread, d, m, rfl, hf, hs, hm1, hm6, hd1, hd2, q1, q2⟩ := h
    refine ⟨_, (pss_cons (ps_asg (pe_call D_least_counts.ok (hr.mono (by decide)) (by rfl) D_least_counts.m D_least_counts.kp D_least_counts.b .nil pass0 (pa_cons (pv 0) (pa_cons (pv 1) (pa_cons (pv 3) pa_nil)))) (pg_tup rfl (pgs_cons (pg_name (i := 4) sc_least_numbers.nd rfl (by first | exact Or.inl rfl | exact Or.inr rfl)) (pgs_cons (pg_name (i := 5) sc_least_numbers.nd rfl (by first | exact Or.inl rfl | exact Or.inr rfl)) (pgs_cons (pg_name (i := 6) sc_least_numbers.nd rfl (by first | exact Or.inl rfl | exact Or.inr rfl)) pgs_nil)))))
  (pss_one (ps_ret (pe_ifExp (pt_cmpR op_le (pv 4) (pe_glob (v := .int 12) (by rfl) T.c_MOST_COPIES ⟨_, rfl⟩) (nomark _)) (pe_make T.mk_Numbers GI_Numbers (hr.mono (by decide)) (by rfl) T.m_Numbers bI_Numbers .nil pass0 (pa_cons (pv 4) (pa_cons (pv 0) (pa_cons (pv 2) (pa_cons (pv 3) (pa_cons (pe_op op_sub (pv 4) (pv 0)) (pa_cons (pe_op op_sub (pv 4) (pv 0)) (pa_cons (pv 5) pa_nil)))))))) pe_non)))), ?_⟩
    refine ⟨_, rfl, _, rfl, _, rfl, f, spread, m, rfl, fun t ht => ?_⟩
    refine ⟨t, _, rfl, SqT.of upd_same, rfl, _, _, rfl, _, _, rfl, _, [], rfl, rfl, ?_⟩
    refine ⟨_, rfl, _, _, rfl, rfl, _, rfl, ite_dec (fun z => ?_) (fun z => ?_)⟩
    · have e : f + (2 * f + spread + m) - f = 2 * f + spread + m := by omega
      refine ⟨_, rfl, _, rfl, _, rfl, _, rfl, _, rfl, _, rfl, _, _, rfl, rfl, _, rfl, _, rfl, _, _, rfl, rfl, _, rfl, fun x dx hx hdx hne => ?_⟩
      refine ⟨x, dx, _, _, _, _, _, _, _, rfl, upd_same, by omega, by omega, by omega, by omega, by omega, by omega, by split <;> omega, fun H' hH hx' => ⟨rfl, ?_⟩⟩
      refine q1 z x H' (fun b o hb => ?_) ?_ ⟨dx, ?_⟩
      · have nbt : b ≠ t := ne_of_none hb ht
        have hb1 : upd H t (.tup [V.int (f + (2 * f + spread + m)), V.int (if 0 < spread then 2 * f + spread + m else 1), V.int (2 * f + spread + m)]) b = some o := by rw [upd_ne nbt]; exact hb
        have nbx : b ≠ x := ne_of_none hb1 hx
        refine hH b o nbx ?_
        rw [upd_ne nbx, upd_ne (ne_of_none hb1 hdx)]
        exact hb1
      · exact (same_new ht).free hx
      · rw [e] at hx'
        exact hx'
    · exact q2 (by omega) _ (same_new ht)

theorem tok_bd {size mark m : Int} (hz : 0 ≤ size ∧ size ≤ 1000000000000) (hk : 0 ≤ mark ∧ mark ≤ 1000000000000) (hm : 1 ≤ m ∧ m ≤ 6) : 0 ≤ (size + m - 1) / m + mark ∧ (size + m - 1) / m + mark ≤ 3000000000000 := by
  have h1 : 0 ≤ (size + m - 1) / m := Int.ediv_nonneg (by omega) (by omega)
  have h2 : (size + m - 1) / m ≤ size + m - 1 := Int.ediv_le_self _ (by omega)
  omega
def costI (f spread m size mark p0 p1 p2 : Int) : Int := ((size + m - 1) / m + mark) * ((f + (2 * f + spread + m)) * p0 + (if 0 < spread then 2 * f + spread + m else 1) * p1 + (2 * f + spread + m) * p2)
def sp_cost_of (K : PySem.W.Frag) : Sp := fun vs H Q _ => ∃ (f spread m size mark p0 p1 p2 : Int) (a : Addr), vs = [.int f, .int spread, .int m, .int size, .int mark, .ref a] ∧ SqT K H a [.int p0, .int p1, .int p2] ∧ (0 ≤ f ∧ f ≤ 4) ∧ (0 ≤ spread ∧ spread ≤ 12) ∧ (1 ≤ m ∧ m ≤ 6) ∧
  (0 ≤ size ∧ size ≤ 10 ^ 12) ∧ (0 ≤ mark ∧ mark ≤ 10 ^ 12) ∧ (f + (2 * f + spread + m) ≤ 12 → ∀ H', Same H H' → Q (.int (costI f spread m size mark p0 p1 p2)) H') ∧ (12 < f + (2 * f + spread + m) → ∀ H', Same H H' → Q .non H')
theorem ok_cost_of {f : Addr} {fd : FuncData} (F : Fun K "cost_of" "cost_of" s_cost_of f fd) (T : Txt K mg) (D_least_counts : Df P w K mg base 1 "least_counts" ["f", "spread", "m"] sp_least_counts) (D_token_size : Df P w K mg base 1 "token_size" ["size", "mark", "m"] sp_token_size) :
    FnOk P w K mg base CX0 2 f fd ["f", "spread", "m", "size", "mark", "prices"] (sp_cost_of K) := by
  refine F.ok sc_cost_of (fun vs H Q E h => ?_) (fun cdv A outer s H vs Q E hr h => ?_)
  · obtain ⟨_, _, _, _, _, _, _, _, _, rfl, _⟩ := h
    rfl
  · obtain ⟨f, spread, m, size, mark, p0, p1, p2, a, rfl, hp, hf, hs, hm, hz, hk, q1, q2⟩ := h
    refine ⟨_, (pss_cons (ps_set (i := 6) sc_cost_of.nd rfl (by first | exact Or.inl rfl | exact Or.inr rfl) (pe_call D_least_counts.ok (hr.mono (by decide)) (by rfl) D_least_counts.m D_least_counts.kp D_least_counts.b .nil pass0 (pa_cons (pv 0) (pa_cons (pv 1) (pa_cons (pv 2) pa_nil)))))
  (pss_cons (ps_if (pt_cmpR op_gt (pe_ix ix_tup (pv 6) pe_int (fun _ _ => rfl)) (pe_glob (v := .int 12) (by rfl) T.c_MOST_COPIES ⟨_, rfl⟩) (nomark _))
  (pss_one (ps_ret pe_non))
  pss_nil)
  (pss_one (ps_ret (pe_op op_mul (pe_call D_token_size.ok (hr.mono (by decide)) (by rfl) D_token_size.m D_token_size.kp D_token_size.b .nil pass0 (pa_cons (pv 3) (pa_cons (pv 4) (pa_cons (pv 2) pa_nil)))) (pe_callB (cr_sum rfl) (by rfl) T.sum (by decide +kernel) (pa_cons (pe_lc (own := [("count", 7), ("price", 8)]) (by rfl) sc_cost_of.nd (RZ.pi_zipA (by rfl) T.zip (pa_cons (pv 6) (pa_cons (pv 5) pa_nil))) (blkOk_by (own := [("count", 7), ("price", 8)]) (N := N_cost_of) (sc := defScope s_cost_of) (by decide +kernel)) (fun _ _ _ _ _ => (kpg_tup (K := K) (n := 2) rfl rfl (pgs_cons (pg_name (i := 7) sc_cost_of.nd rfl (by first | exact Or.inl rfl | exact Or.inr rfl)) (pgs_cons (pg_name (i := 8) sc_cost_of.nd rfl (by first | exact Or.inl rfl | exact Or.inr rfl)) pgs_nil)))) (fun _ _ _ _ _ => pts_nil) (fun _ _ _ _ _ => (pe_op op_mul (pv 7) (pv 8)))) pa_nil))))))), ?_⟩
    refine ⟨_, rfl, _, rfl, _, rfl, f, spread, m, rfl, fun t ht => ?_⟩
    refine ⟨_, rfl, t, _, 0, _, rfl, rfl, SqT.of upd_same, atI_nat (j := 0) rfl, _, _, rfl, rfl, _, rfl, ite_dec (fun z => ?_) (fun z => ?_)⟩
    · exact q2 z _ (same_new ht)
    · have z' : f + (2 * f + spread + m) ≤ 12 := by omega
      have hsz : 0 ≤ size ∧ size ≤ 1000000000000 := hz
      have hmk : 0 ≤ mark ∧ mark ≤ 1000000000000 := hk
      refine ⟨_, rfl, _, rfl, _, rfl, size, mark, m, rfl, by omega, by omega, ?_⟩
      have htok : 0 ≤ (size + m - 1) / m + mark ∧ (size + m - 1) / m + mark ≤ 3000000000000 := tok_bd hsz hmk hm
      refine ⟨_, rfl, _, rfl, t, a, _, _, rfl, .inr ⟨SqT.of upd_same, seqT (same_new ht) hp, fun D hD => ?_⟩⟩
      refine lc_same (walk_zipT (n := 3) rfl rfl) (by decide) hD ErI (fun _ _ _ _ _ _ h => h) (fun _ _ _ _ _ h => h)
        (fun i l => l = [(f + (2 * f + spread + m)) * p0, (if 0 < spread then 2 * f + spread + m else 1) * p1, (2 * f + spread + m) * p2].take i) rfl (fun H2 sm => ⟨SqT.of (sm _ _ upd_same), seqT ((same_new ht).trans sm) hp⟩) ?_ ?_
      · rintro i x H2 H3 l hi sm - rfl ⟨T', y1, y2, rfl, hT, rfl, e1, e2⟩ A B hA hB
        obtain ⟨n1, n2, rfl, rfl, hn1, e⟩ : ∃ n1 n2 : Int, y1 = .int n1 ∧ y2 = .int n2 ∧ (0 ≤ n1 ∧ n1 ≤ 100) ∧ [(f + (2 * f + spread + m)) * p0, (if 0 < spread then 2 * f + spread + m else 1) * p1, (2 * f + spread + m) * p2].take (i + 1) = [(f + (2 * f + spread + m)) * p0, (if 0 < spread then 2 * f + spread + m else 1) * p1, (2 * f + spread + m) * p2].take i ++ [n1 * n2] := by
          match i, hi, e1, e2 with
          | 0, _, e1, e2 => exact ⟨_, _, (Option.some.inj e1).symm, (Option.some.inj e2).symm, by omega, rfl⟩
          | 1, _, e1, e2 => exact ⟨_, _, (Option.some.inj e1).symm, (Option.some.inj e2).symm, by split <;> omega, rfl⟩
          | 2, _, e1, e2 => exact ⟨_, _, (Option.some.inj e1).symm, (Option.some.inj e2).symm, by omega, rfl⟩
        refine ⟨T', _, rfl, SqT.of upd_same, rfl, _, _, rfl, _, [], rfl, rfl, rfl, t_yes ?_⟩
        refine ⟨_, rfl, _, rfl, _, _, rfl, rfl, .inl ⟨by omega, by omega⟩, ?_⟩
        exact hA _ _ _ (same_new hT) rfl e.symm
      · rintro H2 us l sm hD2 hE rfl
        have e := hE.ints
        subst e
        refine ⟨D, _, rfl, SqL.of hD2, _, _, rfl, rfl, .inl ⟨by omega, by omega⟩, ?_⟩
        have := q1 z' H2 ((same_new ht).trans sm)
        unfold costI at this
        rw [show ([(f + (2 * f + spread + m)) * p0, (if 0 < spread then 2 * f + spread + m else 1) * p1, (2 * f + spread + m) * p2].take 3).sum = (f + (2 * f + spread + m)) * p0 + (if 0 < spread then 2 * f + spread + m else 1) * p1 + (2 * f + spread + m) * p2 by
          simp only [List.take_succ_cons, List.take_zero, List.sum_cons, List.sum_nil]; omega]
        exact this
end
end K55

namespace K55
open PySem PySem.Spec PyProof.Rows L2 Hl
section
variable {P : Program} {w : World} {K : PySem.W.Frag} {mg : Str → Option Value} {base : Heap}

/-! ### the best m -/
def bestI (f spread size mark p0 p1 p2 : Int) : Nat → Option (Int × Int)
  | 0 => none
  | n + 1 =>
    if 12 < f + (2 * f + spread + (1 + (n : Int))) then bestI f spread size mark p0 p1 p2 n
    else match bestI f spread size mark p0 p1 p2 n with
      | none => some (1 + (n : Int), costI f spread (1 + (n : Int)) size mark p0 p1 p2)
      | some b => if costI f spread (1 + (n : Int)) size mark p0 p1 p2 < b.2 then some (1 + (n : Int), costI f spread (1 + (n : Int)) size mark p0 p1 p2) else some b
def BestAt (H : Hp) (v : V) : Option (Int × Int) → Prop
  | none => v = .non
  | some b => ∃ p, v = .ref p ∧ H p = some (.tup [.int b.1, .int b.2])
theorem BestAt.mono {H H' : Hp} (e : Same H H') {v : V} : ∀ {o : Option (Int × Int)}, BestAt H v o → BestAt H' v o
  | none, h => h
  | some _, ⟨p, h1, h2⟩ => ⟨p, h1, e _ _ h2⟩
def sp_best_m (K : PySem.W.Frag) : Sp := fun vs H Q _ => ∃ (f spread size mark p0 p1 p2 : Int) (a : Addr), vs = [.int f, .int spread, .int size, .int mark, .ref a] ∧ SqT K H a [.int p0, .int p1, .int p2] ∧ (0 ≤ f ∧ f ≤ 4) ∧ (0 ≤ spread ∧ spread ≤ 12) ∧
  (0 ≤ size ∧ size ≤ 10 ^ 12) ∧ (0 ≤ mark ∧ mark ≤ 10 ^ 12) ∧ ∀ v H', Same H H' → BestAt H' v (bestI f spread size mark p0 p1 p2 6) → Q v H'
theorem ok_best_m {f : Addr} {fd : FuncData} (F : Fun K "best_m" "best_m" s_best_m f fd) (T : Txt K mg) (D_cost_of : Df P w K mg base 2 "cost_of" ["f", "spread", "m", "size", "mark", "prices"] (sp_cost_of K)) :
    FnOk P w K mg base CX0 3 f fd ["f", "spread", "size", "mark", "prices"] (sp_best_m K) := by
  refine F.ok sc_best_m (fun vs H Q E h => ?_) (fun cdv A outer s H vs Q E hr h => ?_)
  · obtain ⟨_, _, _, _, _, _, _, _, rfl, _⟩ := h
    rfl
  · obtain ⟨f, spread, size, mark, p0, p1, p2, a, rfl, hp, hf, hs, hz, hk, q⟩ := h
    refine ⟨_, (pss_cons (ps_set (i := 5) sc_best_m.nd rfl (by first | exact Or.inl rfl | exact Or.inr rfl) pe_non)
  (pss_cons (ps_for PassesOwn.never rfl (pi_range2 (by rfl) T.range (pa_cons pe_int (pa_cons (pe_op op_add (pe_glob (v := .int 6) (by rfl) T.c_MOST_PIECES ⟨_, rfl⟩) pe_int) pa_nil))) (pg_name (i := 6) sc_best_m.nd rfl (by first | exact Or.inl rfl | exact Or.inr rfl))
  (pss_cons (ps_set (i := 7) sc_best_m.nd rfl (by first | exact Or.inl rfl | exact Or.inr rfl) (pe_call D_cost_of.ok (hr.mono (by decide)) (by rfl) D_cost_of.m D_cost_of.kp D_cost_of.b .nil pass0 (pa_cons (pv 0) (pa_cons (pv 1) (pa_cons (pv 6) (pa_cons (pv 2) (pa_cons (pv 3) (pa_cons (pv 4) pa_nil))))))))
  (pss_one (ps_if (PW.pt (pw_and (pt_cmpR op_notN (pv 7) pe_non (nomark _)) (pw_and1 (PW.pt (pw_or (pt_cmpR op_isN (pv 5) pe_non (nomark _)) (pw_or1 (pt_cmpR op_lt (pv 7) (pe_ix ix_tup (pv 5) pe_int (fun _ _ => rfl)) (nomark _))))))))
  (pss_one (ps_set (i := 5) sc_best_m.nd rfl (by first | exact Or.inl rfl | exact Or.inr rfl) (pe_tup (pa_cons (pv 6) (pa_cons (pv 7) pa_nil)))))
  pss_nil))))
  (pss_one (ps_ret (pv 5))))), ?_⟩
    refine ⟨_, _, rfl, rfl, 1, 7, rfl, (by decide), ?_⟩
    refine for_range (n := 6) (fun i σ H' => ∃ v x y, σ = [some (.int f), some (.int spread), some (.int size), some (.int mark), some (.ref a), some v, x, y] ∧ Same H H' ∧ BestAt H' v (bestI f spread size mark p0 p1 p2 i))
      ⟨.non, none, none, rfl, Same.refl _, rfl⟩ ?_ ?_
    · rintro i σ H1 hi ⟨v, x, y, rfl, sm, hb⟩
      refine ⟨_, rfl, _, rfl, _, rfl, _, rfl, _, rfl, _, rfl, f, spread, 1 + (i : Int), size, mark, p0, p1, p2, a, rfl, seqT sm hp, hf, hs, by omega, hz, hk, fun z H2 sm2 => ?_, fun z H2 sm2 => ?_⟩
      · have e0 : ¬ 12 < f + (2 * f + spread + (1 + (i : Int))) := by omega
        refine ⟨_, rfl, rfl, _, rfl, ?_⟩
        have hb2 := hb.mono sm2
        cases hbi : bestI f spread size mark p0 p1 p2 i with
        | none =>
          rw [hbi] at hb2
          subst hb2
          refine ⟨_, rfl, rfl, _, rfl, ?_⟩
          refine ⟨_, rfl, _, rfl, (by show 2 ≤ sizeLine; decide), fun p hp => ?_⟩
          refine ⟨_, _, _, rfl, (sm.trans sm2).trans (same_new hp), ?_⟩
          show BestAt _ _ (if _ then _ else _)
          rw [if_neg e0, hbi]
          exact ⟨p, rfl, upd_same⟩
        | some b =>
          rw [hbi] at hb2
          obtain ⟨r, rfl, hr2⟩ := hb2
          refine ⟨_, rfl, rfl, _, rfl, ?_⟩
          refine ⟨_, rfl, _, rfl, r, _, 1, _, rfl, rfl, SqT.of hr2, atI_nat (j := 1) rfl, _, _, rfl, rfl, _, rfl, ite_dec (fun hc => ?_) (fun hc => ?_)⟩
          · refine ⟨_, rfl, _, rfl, (by show 2 ≤ sizeLine; decide), fun p hp => ?_⟩
            refine ⟨_, _, _, rfl, (sm.trans sm2).trans (same_new hp), ?_⟩
            show BestAt _ _ (if _ then _ else _)
            rw [if_neg e0, hbi]
            show BestAt _ _ (if _ then _ else _)
            rw [if_pos hc]
            exact ⟨p, rfl, upd_same⟩
          · refine ⟨_, _, _, rfl, sm.trans sm2, ?_⟩
            show BestAt _ _ (if _ then _ else _)
            rw [if_neg e0, hbi]
            show BestAt _ _ (if _ then _ else _)
            rw [if_neg hc]
            exact ⟨r, rfl, hr2⟩
      · refine ⟨_, rfl, rfl, _, rfl, ?_⟩
        refine ⟨_, _, _, rfl, sm.trans sm2, ?_⟩
        show BestAt _ _ (if _ then _ else _)
        rw [if_pos z]
        exact hb.mono sm2
    · rintro σ H1 ⟨v, x, y, rfl, sm, hb⟩
      exact ⟨_, rfl, q _ _ sm hb⟩
end
end K55

namespace K55
open PySem PySem.Spec PyProof.Rows L2 Hl
/-! ### the law's own defs -/
theorem lay_ints : ∀ ns : List Int, PyData.canLayAll0 (ns.map PyData.int) = true
  | [] => by simp [PyData.canLayAll0]
  | n :: r => by simp [PyData.canLayAll0, PyData.canLay0, lay_ints r]
theorem depth_ints : ∀ ns : List Int, PyData.depthAll (ns.map PyData.int) = 0
  | [] => by simp [PyData.depthAll]
  | n :: r => by
    have h := depth_ints r
    simp only [List.map_cons, PyData.depthAll, PyData.depth, h]
    rfl
theorem shaped_ints (ns : List Int) : SeqAt.shaped (.list (ns.map PyData.int)) = true := by
  show ((PyData.list (ns.map PyData.int)).canLay0 && decide ((PyData.list (ns.map PyData.int)).depth ≤ 64)) = true
  simp only [PyData.canLay0, PyData.depth, lay_ints, depth_ints]
  rfl
def Frm (w q : Addr) (H H' : Hp) : Prop := ∀ a o, a ≠ w → a ≠ q → H a = some o → H' a = some o
def HeapAt (H : Hp) (w q : Addr) : Prop := ∃ (cs : List Int) (st : Int), H w = some (.lst [.ref q, .int st]) ∧ H q = some (.lst (cs.map V.int)) ∧ (∀ c ∈ cs, 0 ≤ c) ∧ cs.length ≤ 63 ∧ 0 ≤ st ∧ st < 2147483647
theorem Frm.refl (w q : Addr) (H : Hp) : Frm w q H H := fun _ _ _ _ h => h
theorem Frm.trans {w q : Addr} {H H' H'' : Hp} (a : Frm w q H H') (b : Frm w q H' H'') : Frm w q H H'' := fun x o h1 h2 h => b x o h1 h2 (a x o h1 h2 h)
theorem Frm.same {w q : Addr} {H H' : Hp} (e : Same H H') : Frm w q H H' := fun x o _ _ h => e x o h
theorem Frm.w {w q : Addr} {H H' : Hp} {o : HO} (e : Frm w q H H') : Frm w q H (upd H' w o) := fun x u h1 h2 h => by rw [upd_ne h1]; exact e x u h1 h2 h
theorem Frm.q {w q : Addr} {H H' : Hp} {o : HO} (e : Frm w q H H') : Frm w q H (upd H' q o) := fun x u h1 h2 h => by rw [upd_ne h2]; exact e x u h1 h2 h
theorem HeapAt.same {H H' : Hp} {w q : Addr} (e : Same H H') (h : HeapAt H w q) : HeapAt H' w q := by
  obtain ⟨cs, st, h1, h2, h3⟩ := h
  exact ⟨cs, st, e _ _ h1, e _ _ h2, h3⟩
theorem at_last (cs : List Int) (h : cs ≠ []) : atI (cs.map V.int) (-1) = some (.int (cs.getLast h)) := by
  have e : cs.map V.int = cs.dropLast.map V.int ++ [.int (cs.getLast h)] := by
    rw [← List.map_singleton, ← List.map_append, List.dropLast_concat_getLast]
  rw [e]
  exact atI_last _ _
theorem get_last (cs : List Int) (h : cs ≠ []) : (cs.map V.int)[(cs.map V.int).length - 1]? = some (.int (cs.getLast h)) := by
  rw [← List.getLast?_eq_getElem?, List.getLast?_map, List.getLast?_eq_getLast h]
  rfl
section
variable {P : Program} {w : World} {K : PySem.W.Frag} {mg : Str → Option Value} {base : Heap}

def sp_draw : Sp := fun vs H Q _ => ∃ (w q : Addr) (many : Int), vs = [.ref w, .int many] ∧ HeapAt H w q ∧ 0 < many ∧ many < 1073741824 ∧ ∀ r H', 0 ≤ r → r < many → Frm w q H H' → HeapAt H' w q → Q (.int r) H'
theorem ok_draw {f : Addr} {fd : FuncData} (F : Fun K "_law_draw" "_law_draw" s__law_draw f fd) (T : Txt K mg) : FnOk P w K mg base CX0 1 f fd ["heap", "many"] sp_draw := by
  refine F.ok sc__law_draw (fun vs H Q E h => ?_) (fun cdv A outer s H vs Q E hr h => ?_)
  · obtain ⟨_, _, _, rfl, _⟩ := h
    rfl
  · obtain ⟨w, q, many, rfl, ⟨cs0, st, hw, hq, hp, hl, hs1, hs2⟩, m0, m1, k⟩ := h
    refine ⟨_, (pss_cons (ps_while PassesOwn.never (PW.pt (pw_and (pt_cmpR (op_neD hr.units) (pe_ix ix_list (pv 0) pe_int (fun _ _ => rfl)) (pe_lst pa_nil) (nomark _)) (pw_and1 (pt_cmpR op_eq (pe_ix ix_list (pe_ix ix_list (pv 0) pe_int (fun _ _ => rfl)) (pe_un un_neg pe_int) (fun _ _ => rfl)) pe_int (nomark _)))))
  (pss_one (ps_expr (pe_bm0 PySem.F.plainAttrs_list PySem.F.slot_list_pop PySem.F.type_list_pop mt_pop (pe_ix ix_list (pv 0) pe_int (fun _ _ => rfl))))))
  (pss_cons (ps_if (pt_cmpR (op_neD hr.units) (pe_ix ix_list (pv 0) pe_int (fun _ _ => rfl)) (pe_lst pa_nil) (nomark _))
  (pss_cons (ps_set (i := 2) sc__law_draw.nd rfl (by first | exact Or.inl rfl | exact Or.inr rfl) (pe_bm0 PySem.F.plainAttrs_list PySem.F.slot_list_pop PySem.F.type_list_pop mt_pop (pe_ix ix_list (pv 0) pe_int (fun _ _ => rfl))))
  (pss_cons (ps_expr (pe_bm PySem.F.plainAttrs_list PySem.F.slot_list_append PySem.F.type_list_append mt_append (pe_ix ix_list (pv 0) pe_int (fun _ _ => rfl)) (pa_cons (pe_op op_fdivN (pv 2) (pv 1)) pa_nil)))
  (pss_one (ps_ret (pe_op op_mod (pe_callTy call_int1 (by rfl) T.int (by decide +kernel) (pa_cons (pv 2) pa_nil)) (pv 1))))))
  pss_nil)
  (pss_cons (ps_asg (pe_op op_mod (pe_callTy call_int1 (by rfl) T.int (by decide +kernel) (pa_cons (pe_op op_add (pe_op op_mul (pe_ix ix_list (pv 0) pe_int (fun _ _ => rfl)) pe_int) pe_int) pa_nil)) pe_int) (pg_sub (pv 0) pe_int set_list))
  (pss_one (ps_ret (pe_op op_mod (pe_callTy call_int1 (by rfl) T.int (by decide +kernel) (pa_cons (pe_op op_fdivN (pe_ix ix_list (pv 0) pe_int (fun _ _ => rfl)) pe_int) pa_nil)) (pv 1))))))), ?_⟩
    -- is a list of ints another one than []
    have test : ∀ {H1 : Hp} {cs : List Int} {p : Addr} {R : VK}, H1 q = some (.lst (cs.map V.int)) → H1 p = none → R (.bl (!cs.isEmpty)) (upd H1 p (.lst [])) → rNeD K (.ref q) (.ref p) (upd H1 p (.lst [])) R := fun {H1 cs p R} h1 h2 r => by
      refine ⟨.list (cs.map PyData.int), .list [], .lst (SqL.of (by rw [upd_ne (ne_of_none h1 h2)]; exact h1)) (dps_ints cs), .lst (SqL.of upd_same) .nil, shaped_ints cs, rfl, ?_⟩
      cases cs with
      | nil => exact r
      | cons c r' => exact r
    refine while_ex (fun m σ H' => σ = [some (.ref w), some (.int many), none] ∧ ∃ cs : List Int, m = cs.length ∧ H' w = some (.lst [.ref q, .int st]) ∧ H' q = some (.lst (cs.map V.int)) ∧ (∀ c ∈ cs, 0 ≤ c) ∧ cs.length ≤ 63 ∧ Frm w q H H')
      (fun σ H' => σ = [some (.ref w), some (.int many), none] ∧ ∃ cs : List Int, H' w = some (.lst [.ref q, .int st]) ∧ H' q = some (.lst (cs.map V.int)) ∧ (∀ c ∈ cs, 0 ≤ c) ∧ cs.length ≤ 63 ∧ Frm w q H H')
      ⟨cs0.length, rfl, cs0, rfl, hw, hq, hp, hl, Frm.refl _ _ _⟩ ?_ ?_
    · rintro m σ H1 ⟨rfl, cs, rfl, hw, hq, hp, hl, fr⟩ Z hZ
      have nwq : w ≠ q := fun e => by
        rw [e, hq] at hw
        cases cs with
        | nil => simp at hw
        | cons c r => simp at hw
      refine ⟨_, rfl, w, _, 0, _, rfl, rfl, SqL.of hw, atI_nat (j := 0) rfl, Nat.zero_le _, fun p hpn => ?_⟩
      have sm : Same H1 (upd H1 p (.lst [])) := same_new hpn
      have hw3 := sm _ _ hw
      have hq3 := sm _ _ hq
      refine test hq hpn ⟨_, rfl, ?_⟩
      by_cases hcs : cs = []
      · subst hcs
        exact iteF (iteF (hZ _ _ ⟨rfl, [], hw3, hq3, hp, hl, fr.trans (Frm.same sm)⟩))
      · have hem : (!cs.isEmpty) = true := by cases cs with
          | nil => exact absurd rfl hcs
          | cons _ _ => rfl
        rw [hem]
        refine iteT ?_
        refine ⟨_, rfl, w, _, 0, _, rfl, rfl, SqL.of hw3, atI_nat (j := 0) rfl, _, rfl, q, _, -1, _, rfl, rfl, SqL.of hq3, at_last cs hcs, rfl, _, rfl, ite_dec (fun z => ?_) (fun z => ?_)⟩
        · refine ⟨fun σ' H' => σ' = [some (.ref w), some (.int many), none] ∧ ∃ cs' : List Int, cs'.length < cs.length ∧ H' w = some (.lst [.ref q, .int st]) ∧ H' q = some (.lst (cs'.map V.int)) ∧ (∀ c ∈ cs', 0 ≤ c) ∧ cs'.length ≤ 63 ∧ Frm w q H H', ?_, ?_⟩
          · rintro σ' H' ⟨rfl, cs', h1, h2, h3, h4, h5, h6⟩
            exact ⟨_, h1, rfl, cs', rfl, h2, h3, h4, h5, h6⟩
          · refine ⟨_, rfl, w, _, 0, _, rfl, rfl, SqL.of hw3, atI_nat (j := 0) rfl, .inl ⟨rfl, _, SqL.of hq3⟩, q, _, _, rfl, rfl, hq3, get_last cs hcs, ?_⟩
            have hpos : 0 < cs.length := List.length_pos_iff.mpr hcs
            refine ⟨rfl, cs.dropLast, by rw [List.length_dropLast]; omega, ?_, ?_, fun c hc => hp _ (List.dropLast_subset _ hc), by rw [List.length_dropLast]; omega, (fr.trans (Frm.same sm)).q⟩
            · rw [upd_ne nwq]; exact hw3
            · rw [upd_same, List.map_dropLast]
        · exact hZ _ _ ⟨rfl, cs, hw3, hq3, hp, hl, fr.trans (Frm.same sm)⟩
    · rintro σ H2 ⟨rfl, cs, hw2, hq2, hp, hl, fr2⟩
      have nwq : w ≠ q := fun e => by
        rw [e, hq2] at hw2
        cases cs with
        | nil => simp at hw2
        | cons c r => simp at hw2
      refine ⟨_, rfl, w, _, 0, _, rfl, rfl, SqL.of hw2, atI_nat (j := 0) rfl, Nat.zero_le _, fun p hpn => ?_⟩
      have sm3 : Same H2 (upd H2 p (.lst [])) := same_new hpn
      have hw3 := sm3 _ _ hw2
      have hq3 := sm3 _ _ hq2
      have fr3 := fr2.trans (Frm.same (w := w) (q := q) sm3)
      refine test hq2 hpn ⟨_, rfl, ?_⟩
      by_cases hcs : cs = []
      · subst hcs
        refine iteF ?_
        refine ⟨_, rfl, w, _, 1, _, rfl, rfl, SqL.of hw3, atI_nat (j := 1) rfl, _, _, rfl, rfl, .inl ⟨by omega, by omega⟩, _, _, rfl, rfl, .inl ⟨_, rfl, ?_⟩⟩
        refine ⟨_, _, rfl, rfl, (by show (0 : Int) < 2147483647; decide), ?_⟩
        refine ⟨_, rfl, w, _, 1, 1, rfl, rfl, hw3, rfl, ?_⟩
        refine ⟨_, rfl, w, _, 1, _, rfl, rfl, SqL.of upd_same, atI_nat (j := 1) rfl, _, _, rfl, rfl, ⟨by decide, by decide⟩, .inl ⟨_, rfl, _, rfl, _, _, rfl, rfl, m0, ?_⟩⟩
        refine k _ _ (Int.emod_nonneg _ (by omega)) (Int.emod_lt_of_pos _ m0) fr3.w ⟨[], _, upd_same, ?_, by simp, by simp, Int.emod_nonneg _ (by omega), Int.emod_lt_of_pos _ (by decide)⟩
        rw [upd_ne nwq.symm]
        exact hq3
      · have hne := hcs
        have hem : (!cs.isEmpty) = true := by cases cs with
          | nil => exact absurd rfl hcs
          | cons _ _ => rfl
        rw [hem]
        refine iteT ?_
        refine ⟨_, rfl, w, _, 0, _, rfl, rfl, SqL.of hw3, atI_nat (j := 0) rfl, .inl ⟨rfl, _, SqL.of hq3⟩, q, _, _, rfl, rfl, hq3, get_last cs hne, ?_⟩
        have hw4 : upd (upd H2 p (.lst [])) q (.lst (cs.map V.int).dropLast) w = some (.lst [.ref q, .int st]) := by rw [upd_ne nwq]; exact hw3
        refine ⟨_, rfl, w, _, 0, _, rfl, rfl, SqL.of hw4, atI_nat (j := 0) rfl, .inl ⟨rfl, _, SqL.of upd_same⟩, _, rfl, _, rfl, _, _, rfl, rfl, ⟨by omega, by omega⟩, q, _, _, rfl, rfl, upd_same, ?_, ?_⟩
        · rw [List.length_dropLast, List.length_map]
          exact Nat.lt_of_le_of_lt (Nat.le_trans (Nat.sub_le _ _) hl) (by decide)
        · refine ⟨_, rfl, .inl ⟨_, rfl, _, rfl, _, _, rfl, rfl, m0, ?_⟩⟩
          have hc0 : 0 ≤ cs.getLast hne := hp _ (List.getLast_mem hne)
          refine k _ _ (Int.emod_nonneg _ (by omega)) (Int.emod_lt_of_pos _ m0) (fr3.q.q) ⟨cs.dropLast ++ [(cs.getLast hne).fdiv many], st, ?_, ?_, ?_, ?_, hs1, hs2⟩
          · rw [upd_ne nwq]; exact hw4
          · rw [upd_same, List.map_append, List.map_dropLast]; rfl
          · intro x hx
            rcases List.mem_append.mp hx with hx | hx
            · exact hp _ (List.dropLast_subset _ hx)
            · rw [List.mem_singleton.mp hx, Int.fdiv_eq_ediv_of_nonneg _ (by omega)]
              exact Int.ediv_nonneg hc0 (by omega)
          · rw [List.length_append, List.length_dropLast, List.length_singleton]
            have : 0 < cs.length := List.length_pos_iff.mpr hne
            omega
end
end K55

namespace K55
open PySem PySem.Spec PyProof.Rows L2 Hl
theorem mem_ints {ns : List Int} {y : V} {i : Nat} (h : (ns.map V.int)[i]? = some y) : ∃ n, y = V.int n ∧ ns[i]? = some n := by
  rw [List.getElem?_map] at h
  cases e : ns[i]? with
  | none => rw [e] at h; cases h
  | some n => rw [e] at h; exact ⟨n, (Option.some.inj h).symm, rfl⟩
section
variable {P : Program} {w : World} {K : PySem.W.Frag} {mg : Str → Option Value} {base : Heap}
def sp_pick : Sp := fun vs H Q _ => ∃ (w q s : Addr) (xs : List V), vs = [.ref w, .ref s] ∧ HeapAt H w q ∧ H s = some (.lst xs) ∧ s ≠ w ∧ s ≠ q ∧ 0 < xs.length ∧ xs.length < 1000000 ∧ ∀ v H', v ∈ xs → Frm w q H H' → HeapAt H' w q → Q v H'
theorem ok_pick {f : Addr} {fd : FuncData} (F : Fun K "_law_pick" "_law_pick" s__law_pick f fd) (T : Txt K mg) (D__law_draw : Df P w K mg base 1 "_law_draw" ["heap", "many"] sp_draw) : FnOk P w K mg base CX0 2 f fd ["heap", "some"] sp_pick := by
  refine F.ok sc__law_pick (fun vs H Q E h => ?_) (fun cdv A outer s H vs Q E hr h => ?_)
  · obtain ⟨_, _, _, _, rfl, _⟩ := h
    rfl
  · obtain ⟨w, q, s, xs, rfl, hh, hs, n1, n2, l0, l1, k⟩ := h
    refine ⟨_, (pss_one (ps_ret (pe_ix ix_list (pv 1) (pe_call D__law_draw.ok (hr.mono (by decide)) (by rfl) D__law_draw.m D__law_draw.kp D__law_draw.b .nil pass0 (pa_cons (pv 0) (pa_cons (pe_callB call_len_seq (by rfl) T.len PySem.boot_len (pa_cons (pv 1) pa_nil)) pa_nil))) (fun _ _ => rfl)))), ?_⟩
    refine ⟨_, rfl, _, rfl, _, rfl, s, _, rfl, .inl (SqL.of hs), w, q, _, rfl, hh, by omega, by omega, fun r H' r0 r1 fr hh' => ?_⟩
    have e : r = ((r.toNat : Nat) : Int) := (Int.toNat_of_nonneg r0).symm
    have hlt : r.toNat < xs.length := by omega
    refine ⟨s, xs, r, xs[r.toNat], rfl, rfl, SqL.of (fr s _ n1 n2 hs), ?_, k _ _ (List.getElem_mem hlt) fr hh'⟩
    exact at_of e (List.getElem?_eq_getElem hlt)
def sp_a_size : Sp := fun vs H Q _ => ∃ (w q : Addr), vs = [.ref w] ∧ HeapAt H w q ∧ ∀ n H', 0 ≤ n → n ≤ 10 ^ 12 → Frm w q H H' → HeapAt H' w q → Q (.int n) H'
theorem ok_a_size {f : Addr} {fd : FuncData} (F : Fun K "_law_a_size" "_law_a_size" s__law_a_size f fd) (T : Txt K mg) (D__law_draw : Df P w K mg base 1 "_law_draw" ["heap", "many"] sp_draw) (D__law_pick : Df P w K mg base 2 "_law_pick" ["heap", "some"] sp_pick) : FnOk P w K mg base CX0 3 f fd ["heap"] sp_a_size := by
  refine F.ok sc__law_a_size (fun vs H Q E h => ?_) (fun cdv A outer s H vs Q E hr h => ?_)
  · obtain ⟨_, _, rfl, _⟩ := h
    rfl
  · obtain ⟨w, q, rfl, hh, k⟩ := h
    refine ⟨_, (pss_one (ps_ret (pe_call D__law_pick.ok (hr.mono (by decide)) (by rfl) D__law_pick.m D__law_pick.kp D__law_pick.b .nil pass0 (pa_cons (pv 0) (pa_cons (pe_lst (pa_cons pe_int (pa_cons pe_int (pa_cons (pe_call D__law_draw.ok (hr.mono (by decide)) (by rfl) D__law_draw.m D__law_draw.kp D__law_draw.b .nil pass0 (pa_cons (pv 0) (pa_cons pe_int pa_nil))) (pa_cons (pe_call D__law_draw.ok (hr.mono (by decide)) (by rfl) D__law_draw.m D__law_draw.kp D__law_draw.b .nil pass0 (pa_cons (pv 0) (pa_cons pe_int pa_nil))) (pa_cons (pe_call D__law_draw.ok (hr.mono (by decide)) (by rfl) D__law_draw.m D__law_draw.kp D__law_draw.b .nil pass0 (pa_cons (pv 0) (pa_cons (pe_op op_pow pe_int pe_int) pa_nil))) (pa_cons (pe_op op_pow pe_int pe_int) pa_nil))))))) pa_nil))))), ?_⟩
    refine ⟨_, rfl, _, rfl, w, q, _, rfl, hh, by decide, by decide, fun r1 H1 a1 b1 fr1 hh1 => ?_⟩
    refine ⟨_, rfl, w, q, _, rfl, hh1, by decide, by decide, fun r2 H2 a2 b2 fr2 hh2 => ?_⟩
    refine ⟨_, rfl, _, _, rfl, rfl, ⟨by decide, by decide, by decide⟩, w, q, _, rfl, hh2, by decide, by decide, fun r3 H3 a3 b3 fr3 hh3 => ?_⟩
    have b3' : r3 < 1000000000 := b3
    refine ⟨_, _, rfl, rfl, ⟨by decide, by decide, by decide⟩, (by show 6 ≤ sizeLine; decide), fun p hp => ?_⟩
    have sm := same_new (o := .lst [.int 0, .int 1, .int r1, .int r2, .int r3, .int (10 ^ (12 : Int).toNat)]) hp
    have hh4 := hh3.same sm
    obtain ⟨cs, st, hw, hq, _⟩ := id hh3
    refine ⟨w, q, p, _, rfl, hh4, upd_same, (ne_of_none hw hp).symm, (ne_of_none hq hp).symm, (by show 0 < 6; decide), (by show 6 < 1000000; decide), fun v H' hv fr hh' => ?_⟩
    have fr5 : Frm w q H H' := ((fr1.trans fr2).trans fr3).trans ((Frm.same sm).trans fr)
    have c12 : (10 : Int) ^ 12 = 1000000000000 := by decide
    simp only [List.mem_cons, List.not_mem_nil, or_false] at hv
    rcases hv with rfl | rfl | rfl | rfl | rfl | rfl
    · exact k _ _ (by omega) (by omega) fr5 hh'
    · exact k _ _ (by omega) (by omega) fr5 hh'
    · exact k _ _ (by omega) (by omega) fr5 hh'
    · exact k _ _ (by omega) (by omega) fr5 hh'
    · exact k _ _ (by omega) (by omega) fr5 hh'
    · exact k _ _ (by decide) (by decide) fr5 hh'

def sp_heap (K : PySem.W.Frag) : Sp := fun vs H Q _ => ∃ (a : Addr) (ns : List Int), vs = [.ref a] ∧ SqL K H a (ns.map V.int) ∧ ns.length ≤ 63 ∧ ∀ p q H', H p = none → H q = none → Same H H' → HeapAt H' p q → Q (.ref p) H'
theorem ok_heap {f : Addr} {fd : FuncData} (F : Fun K "_law_heap" "_law_heap" s__law_heap f fd) (T : Txt K mg) : FnOk P w K mg base CX0 1 f fd ["script"] (sp_heap K) := by
  refine F.ok sc__law_heap (fun vs H Q E h => ?_) (fun cdv A outer s H vs Q E hr h => ?_)
  · obtain ⟨_, _, rfl, _⟩ := h
    rfl
  · obtain ⟨a, ns, rfl, hS, hl, k⟩ := h
    refine ⟨_, (pss_cons (ps_par (i := 1) (j := 2) rfl sc__law_heap.nd rfl rfl (by decide) rfl rfl (pa_cons (pe_lc (own := [("cell", 3)]) (by rfl) sc__law_heap.nd (pi_list (pe_slice sl_list (pv 0) po_none (po_some pe_int))) (blkOk_by (own := [("cell", 3)]) (N := N__law_heap) (sc := defScope s__law_heap) (by decide +kernel)) (fun _ _ _ _ _ => (pg_name (i := 3) sc__law_heap.nd rfl (by first | exact Or.inl rfl | exact Or.inr rfl))) (fun _ _ _ _ _ => pts_nil) (fun _ _ _ _ _ => (pe_op op_add (pe_op op_mul pe_int (pe_callB call_abs (by rfl) T.abs (by decide +kernel) (pa_cons (pv 3) pa_nil))) (pe_callTy call_int1 (by rfl) T.int (by decide +kernel) (pa_cons (pe_cmpR op_lt (pv 3) pe_int (nomark _)) pa_nil))))) (pa_cons pe_int pa_nil)) (by rfl))
  (pss_cons (ps_for PassesOwn.never rfl (pi_list (pv 1)) (pg_name (i := 3) sc__law_heap.nd rfl (by first | exact Or.inl rfl | exact Or.inr rfl))
  (pss_one (ps_set (i := 2) sc__law_heap.nd rfl (by first | exact Or.inl rfl | exact Or.inr rfl) (pe_op op_mod (pe_callTy call_int1 (by rfl) T.int (by decide +kernel) (pa_cons (pe_op op_add (pe_op op_add (pe_op op_mul (pv 2) pe_int) (pe_op op_mod (pe_callTy call_int1 (by rfl) T.int (by decide +kernel) (pa_cons (pv 3) pa_nil)) pe_int)) pe_int) pa_nil)) pe_int))))
  (pss_one (ps_ret (pe_lst (pa_cons (pe_revL (pe_lc (own := [("cell", 3)]) (by rfl) sc__law_heap.nd (pi_list (pv 1)) (blkOk_by (own := [("cell", 3)]) (N := N__law_heap) (sc := defScope s__law_heap) (by decide +kernel)) (fun _ _ _ _ _ => (pg_name (i := 3) sc__law_heap.nd rfl (by first | exact Or.inl rfl | exact Or.inr rfl))) (fun _ _ _ _ _ => (pts_one (pt_cmpR op_ge (pv 3) (pe_op op_pow pe_int pe_int) (nomark _)))) (fun _ _ _ _ _ => (pv 3)))) (pa_cons (pv 2) pa_nil))))))), ?_⟩
    refine ⟨_, rfl, 60, rfl, a, _, rfl, hS, fun p hp => ?_⟩
    have s1 : Same H (upd H p (.lst (cutV (ns.map V.int) none (some 60)))) := same_new hp
    have hcut : ∃ ms : List Int, cutV (ns.map V.int) none (some 60) = ms.map V.int ∧ ms.length ≤ 63 := by
      refine ⟨(ns.drop (HT.sIx (ns.map V.int).length 0 none)).take (HT.sIx (ns.map V.int).length (ns.map V.int).length (some 60) - HT.sIx (ns.map V.int).length 0 none), ?_, ?_⟩
      · unfold cutV
        rw [List.map_take, List.map_drop]
      · rw [List.length_take, List.length_drop]
        omega
    obtain ⟨ms, ems, hms⟩ := hcut
    rw [ems] at s1 ⊢
    refine ⟨p, rfl, ⟨_, SqL.of upd_same⟩, fun D hD => ?_⟩
    refine lc_same walk_list (by rw [List.length_map]; omega) hD ErI (fun _ _ _ _ _ _ h => h) (fun _ _ _ _ _ h => h) (fun i l => l.length ≤ i ∧ ∀ c ∈ l, 0 ≤ c) ⟨Nat.le_refl _, by simp⟩ (fun H2 sm => SqL.of (sm _ _ upd_same)) ?_ ?_
    · rintro i x H2 H3 l hi sm - ⟨hl1, hl2⟩ ⟨rfl, hx⟩ A B hA hB
      obtain ⟨c, rfl, _⟩ := mem_ints hx
      refine ⟨rfl, t_yes ?_⟩
      refine ⟨_, rfl, _, rfl, _, _, rfl, rfl, .inl ⟨by decide, by decide⟩, ?_⟩
      refine ⟨_, rfl, _, _, rfl, rfl, .inr ⟨_, rfl, ?_⟩⟩
      refine ⟨_, _, rfl, rfl, ?_⟩
      refine hA _ _ _ (Same.refl _) rfl ⟨by rw [List.length_append]; exact Nat.succ_le_succ hl1, fun z hz => ?_⟩
      rcases List.mem_append.mp hz with hz | hz
      · exact hl2 _ hz
      · rw [List.mem_singleton.mp hz]
        split <;> split <;> omega
    · rintro H2 us l sm hD2 hE ⟨hl1, hl2⟩
      have e := hE.ints
      subst e
      rw [List.length_map] at hl1
      refine ⟨_, _, rfl, ?_⟩
      refine ⟨_, rfl, D, rfl, ⟨_, SqL.of hD2⟩, for_list (xs := l.map V.int) (fun i σ H' => ∃ st x, σ = [some (.ref a), some (.ref D), some (.int st), x] ∧ 0 ≤ st ∧ st < 2147483647 ∧ H' = H2) ⟨50021, none, rfl, by decide, by decide, rfl⟩ (fun i σ H' _ ⟨_, _, _, _, _, e⟩ => by rw [e]; exact SqL.of hD2) ?_ ?_⟩
      · rintro i y σ H' hy ⟨st, x, rfl, h0, h1, rfl⟩
        obtain ⟨c, rfl, _⟩ := mem_ints hy
        refine ⟨_, rfl, _, _, rfl, rfl, .inl ⟨by omega, by omega⟩, ?_⟩
        refine ⟨_, rfl, .inl ⟨_, rfl, _, _, rfl, rfl, (by show (0 : Int) < 2147483563; decide), ?_⟩⟩
        refine ⟨_, _, rfl, rfl, _, _, rfl, rfl, .inl ⟨_, rfl, _, _, rfl, rfl, (by show (0 : Int) < 2147483647; decide), ?_⟩⟩
        exact ⟨_, _, rfl, Int.emod_nonneg _ (by decide), Int.emod_lt_of_pos _ (by decide), rfl⟩
      · rintro σ H' ⟨st, x, rfl, h0, h1, rfl⟩
        refine ⟨_, rfl, D, rfl, ⟨_, SqL.of hD2⟩, fun D2 hDn => ?_⟩
        refine lc_same (walk_list (xs := l.map V.int)) (by rw [List.length_map]; omega) hDn ErI (fun _ _ _ _ _ _ h => h) (fun _ _ _ _ _ h => h) (fun i m => m.length ≤ i ∧ ∀ c ∈ m, 0 ≤ c) ⟨Nat.le_refl _, by simp⟩ (fun H4 sm4 => SqL.of (sm4 _ _ hD2)) ?_ ?_
        · rintro i x4 H4 H5 m hi sm4 - ⟨hm1, hm2⟩ ⟨rfl, hx⟩ A B hA hB
          obtain ⟨c, rfl, _⟩ := mem_ints hx
          refine ⟨rfl, ?_⟩
          refine ⟨_, rfl, _, _, rfl, rfl, ⟨by decide, by decide, by decide⟩, _, _, rfl, rfl, _, rfl, ite_dec (fun hc => ?_) (fun hc => ?_)⟩
          · refine ⟨_, rfl, hA _ _ _ (Same.refl _) rfl ⟨by rw [List.length_append]; exact Nat.succ_le_succ hm1, fun z hz => ?_⟩⟩
            rcases List.mem_append.mp hz with hz | hz
            · exact hm2 _ hz
            · rw [List.mem_singleton.mp hz]
              have : (0 : Int) ≤ 10 ^ (18 : Int).toNat := by decide
              omega
          · exact hB _ (Same.refl _) ⟨Nat.le_succ_of_le hm1, hm2⟩
        · rintro H4 us m sm4 hD4 hE4 ⟨hm1, hm2⟩
          have e4 := hE4.ints
          subst e4
          rw [List.length_map] at hm1
          refine ⟨D2, _, rfl, SqL.of hD4, fun r hr4 => ?_⟩
          rw [← List.map_reverse]
          have s5 := same_new (o := .lst (m.reverse.map V.int)) hr4
          refine ⟨_, rfl, (by show 2 ≤ sizeLine; decide), fun t ht => ?_⟩
          have s6 := same_new (o := .lst [.ref r, .int st]) ht
          have stot : Same H H4 := (s1.trans sm).trans sm4
          have ntr : t ≠ r := fun e => by rw [e, upd_same] at ht; cases ht
          refine k t r _ ((stot.trans s5).free ht) (stot.free hr4) ((stot.trans s5).trans s6) ⟨m.reverse, st, upd_same, ?_, fun c hc => hm2 c (List.mem_reverse.mp hc), by rw [List.length_reverse]; omega, h0, h1⟩
          rw [upd_ne ntr.symm, upd_same]
end
end K55

namespace K55
open PySem PySem.Spec PyProof.Rows L2 Hl
section
variable {P : Program} {w : World} {K : PySem.W.Frag} {mg : Str → Option Value} {base : Heap}
/-- the same plain value twice: scalars -/
def sp_same0 : Sp := fun vs H Q _ => ((∃ i : Int, vs = [.int i, .int i]) ∨ vs = [.non, .non]) ∧ Q (.bl true) H
theorem ok_same0 {f : Addr} {fd : FuncData} (F : Fun K "_law_same" "_law_same" s__law_same f fd) (T : Txt K mg) (D__law_same : Df P w K mg base 0 "_law_same" ["value", "due"] (fun _ _ _ _ => False)) : FnOk P w K mg base CX0 1 f fd ["value", "due"] sp_same0 := by
  refine F.ok sc__law_same (fun vs H Q E h => ?_) (fun cdv A outer s H vs Q E hr h => ?_)
  · obtain ⟨⟨_, rfl⟩ | rfl, _⟩ := h <;> rfl
  · refine ⟨_, (pss_cons (ps_if (pt_val (pe_callB call_isiS (by rfl) T.isinstance (by decide +kernel) (pa_cons (pv 1) (pa_cons (pe_ty "tuple" (by rfl) T.tuple) pa_nil))))
  (pss_cons ps_never
  (pss_one ps_never))
  pss_nil)
  (pss_cons (ps_if (PW.pt (pw_or (pt_cmpR op_isN (pv 1) pe_non (nomark _)) (pw_or1 (pt_val (pe_callB call_isiS (by rfl) T.isinstance (by decide +kernel) (pa_cons (pv 1) (pa_cons (pe_ty "bool" (by rfl) T.bool) pa_nil)))))))
  (pss_one (ps_ret (pe_ifExp (pt_cmpR op_isN (pv 1) pe_non (nomark _)) (pe_cmpR op_isN (pv 0) pe_non (nomark _)) (pe_ifExp (pt_val (pv 1)) (pe_cmpR op_isBl (pv 0) pe_bl (nomark _)) (pe_cmpR op_isBl (pv 0) pe_bl (nomark _))))))
  pss_nil)
  (pss_cons (ps_if (pt_val (pe_callB call_isiS (by rfl) T.isinstance (by decide +kernel) (pa_cons (pv 1) (pa_cons (pe_ty "int" (by rfl) T.int) pa_nil))))
  (pss_one (ps_ret (pe_and (pe_callB call_isiS (by rfl) T.isinstance (by decide +kernel) (pa_cons (pv 0) (pa_cons (pe_ty "int" (by rfl) T.int) pa_nil))) (pe_and (pe_not (pe_callB call_isiS (by rfl) T.isinstance (by decide +kernel) (pa_cons (pv 0) (pa_cons (pe_ty "bool" (by rfl) T.bool) pa_nil)))) (pe_one (pe_cmpR op_eq (pv 0) (pv 1) (nomark _)))))))
  pss_nil)
  (pss_one ps_never)))), ?_⟩
    obtain ⟨⟨i, rfl⟩ | rfl, k⟩ := h
    · refine ⟨_, rfl, isi_of (.base (.int i)) (b := false) (by decide +kernel) ⟨_, rfl, iteF ?_⟩⟩
      refine ⟨_, rfl, rfl, _, rfl, iteF ⟨_, rfl, isi_intb i ⟨_, rfl, iteF ?_⟩⟩⟩
      refine ⟨_, rfl, isi_int i ⟨_, rfl, iteT ?_⟩⟩
      refine ⟨_, rfl, isi_int i ⟨_, rfl, iteT ⟨_, rfl, isi_intb i ⟨_, rfl, _, rfl, iteT ⟨_, rfl, _, rfl, rfl, ?_⟩⟩⟩⟩⟩
      rw [decide_eq_true rfl]
      exact k
    · refine ⟨_, rfl, isi_of (.base .non) (b := false) (by decide +kernel) ⟨_, rfl, iteF ?_⟩⟩
      refine ⟨_, rfl, rfl, _, rfl, iteT ?_⟩
      exact ⟨_, rfl, rfl, _, rfl, iteT ⟨_, rfl, rfl, k⟩⟩
/-- .. and tuples of ints -/
def sp_same (K : PySem.W.Frag) : Sp := fun vs H Q _ => ((∃ i : Int, vs = [.int i, .int i]) ∨ vs = [.non, .non] ∨ ∃ (a b : Addr) (ns : List Int), vs = [.ref a, .ref b] ∧ SqT K H a (ns.map V.int) ∧ SqT K H b (ns.map V.int) ∧ ns.length ≤ 100) ∧ ∀ H', Same H H' → Q (.bl true) H'
theorem ok_same (T : Txt K mg) (D__law_same : Df P w K mg base 1 "_law_same" ["value", "due"] sp_same0) (F : Fun K "_law_same" "_law_same" s__law_same D__law_same.f D__law_same.fd) : FnOk P w K mg base CX0 2 D__law_same.f D__law_same.fd ["value", "due"] (sp_same K) := by
  have two : FnOk P w K mg base CX0 2 D__law_same.f D__law_same.fd ["value", "due"] (fun vs H Q E => (∃ (a b : Addr) (ns : List Int), vs = [.ref a, .ref b] ∧ SqT K H a (ns.map V.int) ∧ SqT K H b (ns.map V.int) ∧ ns.length ≤ 100) ∧ ∀ H', Same H H' → Q (.bl true) H') := by
    refine F.ok sc__law_same (fun vs H Q E h => ?_) (fun cdv A outer s H vs Q E hr h => ?_)
    · obtain ⟨⟨_, _, _, rfl, _⟩, _⟩ := h
      rfl
    · obtain ⟨⟨a, b, ns, rfl, ha, hb, hl⟩, k⟩ := h
      refine ⟨_, (pss_cons (ps_if (pt_val (pe_callB call_isiS (by rfl) T.isinstance (by decide +kernel) (pa_cons (pv 1) (pa_cons (pe_ty "tuple" (by rfl) T.tuple) pa_nil))))
  (pss_cons (ps_if (PW.pt (pw_or (pt_not (pt_val (pe_callB call_isiS (by rfl) T.isinstance (by decide +kernel) (pa_cons (pv 0) (pa_cons (pe_ty "tuple" (by rfl) T.tuple) pa_nil))))) (pw_or1 (pt_cmpR op_ne (pe_callB call_len_seq (by rfl) T.len PySem.boot_len (pa_cons (pv 0) pa_nil)) (pe_callB call_len_seq (by rfl) T.len PySem.boot_len (pa_cons (pv 1) pa_nil)) (nomark _)))))
  (pss_one (ps_ret pe_bl))
  pss_nil)
  (pss_one (ps_ret (pe_cmpR (op_eqD hr.units) (pe_lc (own := [("one", 2), ("other", 3)]) (by rfl) sc__law_same.nd (RZ.pi_zipA (by rfl) T.zip (pa_cons (pv 0) (pa_cons (pv 1) pa_nil))) (blkOk_by (own := [("one", 2), ("other", 3)]) (N := N__law_same) (sc := defScope s__law_same) (by decide +kernel)) (fun _ _ _ _ _ => (kpg_tup (K := K) (n := 2) rfl rfl (pgs_cons (pg_name (i := 2) sc__law_same.nd rfl (by first | exact Or.inl rfl | exact Or.inr rfl)) (pgs_cons (pg_name (i := 3) sc__law_same.nd rfl (by first | exact Or.inl rfl | exact Or.inr rfl)) pgs_nil)))) (fun _ _ _ _ _ => (pts_one (pt_not (pt_val (pe_call D__law_same.ok (hr.mono (by decide)) (by rfl) D__law_same.m D__law_same.kp D__law_same.b .nil pass0 (pa_cons (pv 2) (pa_cons (pv 3) pa_nil))))))) (fun _ _ _ _ _ => pe_int)) (pe_lst pa_nil) (nomark _)))))
  pss_nil)
  (pss_cons ps_never
  (pss_cons ps_never
  (pss_one ps_never)))), ?_⟩
      refine ⟨_, rfl, isi_of (ty_tup hb) (b := true) (by decide +kernel) ⟨_, rfl, iteT ?_⟩⟩
      refine ⟨_, rfl, isi_of (ty_tup ha) (b := true) (by decide +kernel) ⟨_, rfl, iteF ?_⟩⟩
      refine ⟨_, rfl, a, _, rfl, .inr ha, _, rfl, b, _, rfl, .inr hb, rfl, _, rfl, iteNS rfl ?_⟩
      refine ⟨_, rfl, _, rfl, a, b, _, _, rfl, .inr ⟨ha, hb, fun D hD => ?_⟩⟩
      refine lc_same (α := Unit) (walk_zipT rfl rfl) (by rw [List.length_map]; omega) hD (fun _ _ _ => True) (fun _ _ _ _ _ _ h => h) (fun _ _ _ _ _ h => h) (fun i l => l = []) rfl (fun H2 sm => ⟨seqT sm ha, seqT sm hb⟩) ?_ ?_
      · rintro i x H2 H3 l hi sm - rfl ⟨T', y1, y2, rfl, hT, rfl, e1, e2⟩ A B hA hB
        obtain ⟨n, rfl, h1⟩ := mem_ints e1
        obtain ⟨n2, rfl, h2⟩ := mem_ints e2
        obtain rfl : n = n2 := Option.some.inj (h1.symm.trans h2)
        refine ⟨T', _, rfl, SqT.of upd_same, rfl, _, _, rfl, _, [], rfl, rfl, rfl, ?_⟩
        refine ⟨_, rfl, _, rfl, .inl ⟨n, rfl⟩, _, rfl, iteF ?_⟩
        exact hB _ (same_new hT) rfl
      · rintro H2 us l sm hD2 hE rfl
        cases hE
        refine ⟨Nat.zero_le _, fun p hp => ?_⟩
        have sp := same_new (o := .lst []) hp
        exact ⟨.list [], .list [], .lst (SqL.of (sp _ _ hD2)) .nil, .lst (SqL.of upd_same) .nil, rfl, rfl, k _ (sm.trans sp)⟩
  refine (fnok_or (D__law_same.ok.mono (by decide)) two).imp fun vs H Q E h => ?_
  obtain ⟨h | h | h, k⟩ := h
  · exact .inl ⟨.inl h, k _ (Same.refl _)⟩
  · exact .inl ⟨.inr h, k _ (Same.refl _)⟩
  · exact .inr ⟨h, k⟩

def sp_whole : Sp := fun vs H Q _ => ∃ i t : Int, vs = [.int i, .int t] ∧ 0 ≤ i ∧ i < t ∧ Q (.bl true) H
theorem ok_whole {f : Addr} {fd : FuncData} (F : Fun K "_law_whole" "_law_whole" s__law_whole f fd) (T : Txt K mg) : FnOk P w K mg base CX0 1 f fd ["value", "top"] sp_whole := by
  refine F.ok sc__law_whole (fun vs H Q E h => ?_) (fun cdv A outer s H vs Q E hr h => ?_)
  · obtain ⟨_, _, rfl, _⟩ := h
    rfl
  · obtain ⟨i, t, rfl, h0, h1, k⟩ := h
    refine ⟨_, (pss_one (ps_ret (pe_and (pe_callB call_isiS (by rfl) T.isinstance (by decide +kernel) (pa_cons (pv 0) (pa_cons (pe_ty "int" (by rfl) T.int) pa_nil))) (pe_and (pe_not (pe_callB call_isiS (by rfl) T.isinstance (by decide +kernel) (pa_cons (pv 0) (pa_cons (pe_ty "bool" (by rfl) T.bool) pa_nil)))) (pe_one (pe_chain op_le op_lt pe_int (pv 0) (pv 1))))))), ?_⟩
    refine ⟨_, rfl, isi_int i ⟨_, rfl, iteT ⟨_, rfl, isi_intb i ⟨_, rfl, _, rfl, iteT ?_⟩⟩⟩⟩
    refine ⟨_, rfl, _, _, rfl, rfl, _, rfl, ite_dec (fun _ => ?_) (fun z => (z h0).elim)⟩
    refine ⟨_, rfl, _, _, rfl, rfl, ?_⟩
    show Q (.bl (decide (i < t))) H
    rw [decide_eq_true h1]
    exact k
def row7 (k f d m w1 w2 g : Int) : List V := [.int k, .int f, .int d, .int m, .int w1, .int w2, .int g]
def safeB (k f m w1 w2 g spread : Int) : Bool := if 2 * w1 ≤ k + spread + f then false else if spread = 0 then decide (f + m ≤ w2) else decide (k + spread + f + m ≤ g + w2)
def sp_is_safe (K : PySem.W.Frag) : Sp := fun vs H Q _ => ∃ (a : Addr) (k f d m w1 w2 g spread : Int), vs = [.ref a, .int spread] ∧ SqT K H a (row7 k f d m w1 w2 g) ∧ Q (.bl (safeB k f m w1 w2 g spread)) H
theorem ok_is_safe {f : Addr} {fd : FuncData} (F : Fun K "_law_is_safe" "_law_is_safe" s__law_is_safe f fd) (T : Txt K mg) : FnOk P w K mg base CX0 1 f fd ["row", "spread"] (sp_is_safe K) := by
  refine F.ok sc__law_is_safe (fun vs H Q E h => ?_) (fun cdv A outer s H vs Q E hr h => ?_)
  · obtain ⟨_, _, _, _, _, _, _, _, _, rfl, _⟩ := h
    rfl
  · obtain ⟨a, k, f, d, m, w1, w2, g, spread, rfl, ha, q⟩ := h
    unfold safeB at q
    refine ⟨_, (pss_cons (ps_asg (pv 0) (pg_tup rfl (pgs_cons (pg_name (i := 2) sc__law_is_safe.nd rfl (by first | exact Or.inl rfl | exact Or.inr rfl)) (pgs_cons (pg_name (i := 3) sc__law_is_safe.nd rfl (by first | exact Or.inl rfl | exact Or.inr rfl)) (pgs_cons (pg_name (i := 4) sc__law_is_safe.nd rfl (by first | exact Or.inl rfl | exact Or.inr rfl)) (pgs_cons (pg_name (i := 5) sc__law_is_safe.nd rfl (by first | exact Or.inl rfl | exact Or.inr rfl)) (pgs_cons (pg_name (i := 6) sc__law_is_safe.nd rfl (by first | exact Or.inl rfl | exact Or.inr rfl)) (pgs_cons (pg_name (i := 7) sc__law_is_safe.nd rfl (by first | exact Or.inl rfl | exact Or.inr rfl)) (pgs_cons (pg_name (i := 8) sc__law_is_safe.nd rfl (by first | exact Or.inl rfl | exact Or.inr rfl)) pgs_nil)))))))))
  (pss_cons (ps_if (pt_cmpR op_le (pe_op op_mul pe_int (pv 6)) (pe_op op_add (pe_op op_add (pv 2) (pv 1)) (pv 3)) (nomark _))
  (pss_one (ps_ret pe_bl))
  pss_nil)
  (pss_one (ps_ret (pe_ifExp (pt_cmpR op_eq (pv 1) pe_int (nomark _)) (pe_cmpR op_ge (pv 7) (pe_op op_add (pv 3) (pv 5)) (nomark _)) (pe_cmpR op_ge (pe_op op_add (pv 8) (pv 7)) (pe_op op_add (pe_op op_add (pe_op op_add (pv 2) (pv 1)) (pv 3)) (pv 5)) (nomark _))))))), ?_⟩
    refine ⟨_, rfl, a, _, rfl, ha, rfl, _, _, rfl, _, _, rfl, _, _, rfl, _, _, rfl, _, _, rfl, _, _, rfl, _, [], rfl, rfl, ?_⟩
    refine ⟨_, rfl, _, _, rfl, rfl, .inl ⟨by decide, by decide⟩, _, rfl, _, rfl, _, _, rfl, rfl, _, rfl, _, _, rfl, rfl, _, _, rfl, rfl, _, rfl, ite_dec (fun z => ?_) (fun z => ?_)⟩
    · rw [if_pos z] at q
      exact q
    · rw [if_neg z] at q
      refine ⟨_, rfl, rfl, _, rfl, ite_dec (fun z1 => ?_) (fun z1 => ?_)⟩
      · rw [if_pos (V.int.inj z1)] at q
        exact ⟨_, rfl, _, rfl, _, rfl, _, _, rfl, rfl, _, _, rfl, rfl, q⟩
      · rw [if_neg (fun z2 => z1 (by rw [z2]))] at q
        exact ⟨_, rfl, _, rfl, _, _, rfl, rfl, _, rfl, _, rfl, _, _, rfl, rfl, _, rfl, _, _, rfl, rfl, _, rfl, _, _, rfl, rfl, _, _, rfl, rfl, q⟩
def nearB (k f m w2 spread r : Int) : Bool := decide (m ≤ r + w2 - (k + spread) - f)
def farB (k f m w2 g spread r : Int) : Bool := nearB k f m w2 spread r && (decide (spread = 0) || decide (1 ≤ r + g - (k + spread) - f))
def sp_sees (K : PySem.W.Frag) : Sp := fun vs H Q _ => ∃ (a : Addr) (k f d m w1 w2 g spread r : Int), vs = [.ref a, .int spread, .int r] ∧ SqT K H a (row7 k f d m w1 w2 g) ∧ ∀ p, H p = none → Q (.ref p) (upd H p (.tup [.bl (nearB k f m w2 spread r), .bl (farB k f m w2 g spread r)]))
theorem ok_sees {f : Addr} {fd : FuncData} (F : Fun K "_law_sees" "_law_sees" s__law_sees f fd) (T : Txt K mg) : FnOk P w K mg base CX0 1 f fd ["row", "spread", "r"] (sp_sees K) := by
  refine F.ok sc__law_sees (fun vs H Q E h => ?_) (fun cdv A outer s H vs Q E hr h => ?_)
  · obtain ⟨_, _, _, _, _, _, _, _, _, _, rfl, _⟩ := h
    rfl
  · obtain ⟨a, k, f, d, m, w1, w2, g, spread, r, rfl, ha, q⟩ := h
    refine ⟨_, (pss_cons (ps_asg (pv 0) (pg_tup rfl (pgs_cons (pg_name (i := 3) sc__law_sees.nd rfl (by first | exact Or.inl rfl | exact Or.inr rfl)) (pgs_cons (pg_name (i := 4) sc__law_sees.nd rfl (by first | exact Or.inl rfl | exact Or.inr rfl)) (pgs_cons (pg_name (i := 5) sc__law_sees.nd rfl (by first | exact Or.inl rfl | exact Or.inr rfl)) (pgs_cons (pg_name (i := 6) sc__law_sees.nd rfl (by first | exact Or.inl rfl | exact Or.inr rfl)) (pgs_cons (pg_name (i := 7) sc__law_sees.nd rfl (by first | exact Or.inl rfl | exact Or.inr rfl)) (pgs_cons (pg_name (i := 8) sc__law_sees.nd rfl (by first | exact Or.inl rfl | exact Or.inr rfl)) (pgs_cons (pg_name (i := 9) sc__law_sees.nd rfl (by first | exact Or.inl rfl | exact Or.inr rfl)) pgs_nil)))))))))
  (pss_cons (ps_set (i := 10) sc__law_sees.nd rfl (by first | exact Or.inl rfl | exact Or.inr rfl) (pe_cmpR op_ge (pe_op op_sub (pe_op op_sub (pe_op op_add (pv 2) (pv 8)) (pe_op op_add (pv 3) (pv 1))) (pv 4)) (pv 6) (nomark _)))
  (pss_one (ps_ret (pe_tup (pa_cons (pv 10) (pa_cons (pe_and (pv 10) (pe_one (pe_or (pe_cmpR op_eq (pv 1) pe_int (nomark _)) (pe_one (pe_cmpR op_ge (pe_op op_sub (pe_op op_sub (pe_op op_add (pv 2) (pv 9)) (pe_op op_add (pv 3) (pv 1))) (pv 4)) pe_int (nomark _)))))) pa_nil))))))), ?_⟩
    refine ⟨_, rfl, a, _, rfl, ha, rfl, _, _, rfl, _, _, rfl, _, _, rfl, _, _, rfl, _, _, rfl, _, _, rfl, _, [], rfl, rfl, ?_⟩
    refine ⟨_, rfl, _, rfl, _, _, rfl, rfl, _, rfl, _, rfl, _, _, rfl, rfl, _, _, rfl, rfl, _, rfl, _, _, rfl, rfl, _, rfl, _, _, rfl, rfl, ?_⟩
    have fin : ∀ b : Bool, b = farB k f m w2 g spread r → ∀ p, H p = none → Q (.ref p) (upd H p (.tup [.bl (nearB k f m w2 spread r), .bl b])) := fun b e p hp => by rw [e]; exact q p hp
    refine ⟨_, rfl, _, rfl, _, rfl, ?_⟩
    by_cases h1 : m ≤ r + w2 - (k + spread) - f
    · have hn : nearB k f m w2 spread r = true := decide_eq_true h1
      show (if nearB k f m w2 spread r = true then _ else _)
      rw [hn]
      refine iteT ⟨_, rfl, rfl, _, rfl, ite_dec (fun z => ?_) (fun z => ?_)⟩
      · exact ⟨by show 2 ≤ sizeLine; decide, fin true (by unfold farB; rw [hn, decide_eq_true (V.int.inj z)]; rfl)⟩
      · refine ⟨_, rfl, _, rfl, _, _, rfl, rfl, _, rfl, _, rfl, _, _, rfl, rfl, _, _, rfl, rfl, _, rfl, _, _, rfl, rfl, _, _, rfl, rfl, by show 2 ≤ sizeLine; decide, fin _ ?_⟩
        unfold farB
        rw [hn, show decide (spread = 0) = false from decide_eq_false (fun z2 => z (by rw [z2]))]
        rfl
    · have hn : nearB k f m w2 spread r = false := decide_eq_false h1
      show (if nearB k f m w2 spread r = true then _ else _)
      rw [hn]
      refine iteF ⟨by show 2 ≤ sizeLine; decide, fin false (by unfold farB; rw [hn]; rfl)⟩
theorem numF_at {C : Addr} {H : Hp} {p : Addr} {k f d m w1 w2 g : Int} : (numF k f d m w1 w2 g).lookup ("k" : Str) = some (.int k) ∧ (numF k f d m w1 w2 g).lookup ("f" : Str) = some (.int f) ∧ (numF k f d m w1 w2 g).lookup ("d" : Str) = some (.int d) ∧ (numF k f d m w1 w2 g).lookup ("m" : Str) = some (.int m) ∧
    (numF k f d m w1 w2 g).lookup ("w1" : Str) = some (.int w1) ∧ (numF k f d m w1 w2 g).lookup ("w2" : Str) = some (.int w2) ∧ (numF k f d m w1 w2 g).lookup ("g" : Str) = some (.int g) := by
  unfold numF
  refine ⟨?_, ?_, ?_, ?_, ?_, ?_, ?_⟩ <;> simp only [lookup_putF] <;> rfl
def sp_plain (C : Addr) : Sp := fun vs H Q _ => ∃ (a : Addr) (k f d m w1 w2 g : Int), vs = [.ref a] ∧ NumAt C H a k f d m w1 w2 g ∧ ∀ p, H p = none → Q (.ref p) (upd H p (.tup (row7 k f d m w1 w2 g)))
theorem ok_plain {f : Addr} {fd : FuncData} (F : Fun K "_law_plain_numbers" "_law_plain_numbers" s__law_plain_numbers f fd) (T : Txt K mg) : FnOk P w K mg base CX0 1 f fd ["numbers"] (sp_plain T.C_Numbers) := by
  refine F.ok sc__law_plain_numbers (fun vs H Q E h => ?_) (fun cdv A outer s H vs Q E hr h => ?_)
  · obtain ⟨_, _, _, _, _, _, _, _, rfl, _⟩ := h
    rfl
  · obtain ⟨a, k, f, d, m, w1, w2, g, rfl, ⟨dx, ha⟩, q⟩ := h
    refine ⟨_, (pss_one (ps_ret (pe_tup (pa_cons (pe_fld (pv 0) rfl) (pa_cons (pe_fld (pv 0) rfl) (pa_cons (pe_fld (pv 0) rfl) (pa_cons (pe_fld (pv 0) rfl) (pa_cons (pe_fld (pv 0) rfl) (pa_cons (pe_fld (pv 0) rfl) (pa_cons (pe_fld (pv 0) rfl) pa_nil)))))))))), ?_⟩
    obtain ⟨e1, e2, e3, e4, e5, e6, e7⟩ := numF_at (C := T.C_Numbers) (H := H) (p := a) (k := k) (f := f) (d := d) (m := m) (w1 := w1) (w2 := w2) (g := g)
    refine ⟨_, rfl, a, T.C_Numbers, dx, _, _, rfl, ha, T.cl, T.nk, e1, ?_⟩
    refine ⟨_, rfl, a, T.C_Numbers, dx, _, _, rfl, ha, T.cl, T.nf, e2, ?_⟩
    refine ⟨_, rfl, a, T.C_Numbers, dx, _, _, rfl, ha, T.cl, T.nd, e3, ?_⟩
    refine ⟨_, rfl, a, T.C_Numbers, dx, _, _, rfl, ha, T.cl, T.nm, e4, ?_⟩
    refine ⟨_, rfl, a, T.C_Numbers, dx, _, _, rfl, ha, T.cl, T.nw1, e5, ?_⟩
    refine ⟨_, rfl, a, T.C_Numbers, dx, _, _, rfl, ha, T.cl, T.nw2, e6, ?_⟩
    refine ⟨_, rfl, a, T.C_Numbers, dx, _, _, rfl, ha, T.cl, T.ng, e7, ?_⟩
    exact ⟨by show 7 ≤ sizeLine; decide, q⟩
/-- a token's numbers, as the law and the program say them -/
theorem tok_eq {size mark m : Int} (hz : 0 ≤ size) (hm : 1 ≤ m) : size.fdiv m + (if decide (0 < size % m) = true then 1 else 0) + mark = (size + m - 1) / m + mark := by
  have h0 : size.fdiv m = size / m := Int.fdiv_eq_ediv_of_nonneg _ (by omega)
  have h1 := Int.emod_nonneg size (show m ≠ 0 by omega)
  have h2 := Int.emod_lt_of_pos size (show 0 < m by omega)
  have h3 := Int.mul_ediv_add_emod size m
  rw [h0]
  have key : (size + m - 1) / m = size / m + (if decide (0 < size % m) = true then 1 else 0) := by
    by_cases hp : 0 < size % m
    · rw [decide_eq_true hp, if_pos rfl]
      have e : size + m - 1 = (size % m - 1) + m * (size / m + 1) := by
        rw [Int.mul_add]; omega
      rw [e, Int.add_mul_ediv_left _ _ (by omega), Int.ediv_eq_zero_of_lt (by omega) (by omega)]
      omega
    · rw [decide_eq_false hp, if_neg Bool.false_ne_true]
      have e : size + m - 1 = (m - 1) + m * (size / m) := by omega
      rw [e, Int.add_mul_ediv_left _ _ (by omega), Int.ediv_eq_zero_of_lt (by omega) (by omega)]
      omega
  rw [key]
def sp_token : Sp := fun vs H Q _ => ∃ size mark m : Int, vs = [.int size, .int mark, .int m] ∧ 0 ≤ size ∧ 1 ≤ m ∧ m ≤ 6 ∧ Q (.int ((size + m - 1) / m + mark)) H
theorem ok_token {f : Addr} {fd : FuncData} (F : Fun K "_law_token" "_law_token" s__law_token f fd) (T : Txt K mg) : FnOk P w K mg base CX0 1 f fd ["size", "mark", "m"] sp_token := by
  refine F.ok sc__law_token (fun vs H Q E h => ?_) (fun cdv A outer s H vs Q E hr h => ?_)
  · obtain ⟨_, _, _, rfl, _⟩ := h
    rfl
  · obtain ⟨size, mark, m, rfl, hz, m0, m1, q⟩ := h
    refine ⟨_, (pss_one (ps_ret (pe_op op_add (pe_op op_add (pe_op op_fdivN (pv 0) (pv 2)) (pe_callTy call_int1 (by rfl) T.int (by decide +kernel) (pa_cons (pe_cmpR op_gt (pe_op op_mod (pe_callTy call_int1 (by rfl) T.int (by decide +kernel) (pa_cons (pv 0) pa_nil)) (pv 2)) pe_int (nomark _)) pa_nil))) (pv 1)))), ?_⟩
    refine ⟨_, rfl, _, rfl, _, _, rfl, rfl, ⟨by omega, by omega⟩, _, rfl, .inl ⟨_, rfl, _, rfl, _, _, rfl, rfl, by omega, _, _, rfl, rfl, .inr ⟨_, rfl, ?_⟩⟩⟩
    refine ⟨_, _, rfl, rfl, _, rfl, _, _, rfl, rfl, ?_⟩
    show Q (.int (size.fdiv m + (if decide (0 < size % m) = true then 1 else 0) + mark)) H
    rw [tok_eq hz m0]
    exact q
/-- what counts cost by the law -/
def costL (size mark m p0 p1 p2 : Int) (t : Int × Int × Int) : Int := ((size + m - 1) / m + mark) * (t.1 * p0 + t.2.1 * p1 + t.2.2 * p2)
def sp_cost (K : PySem.W.Frag) : Sp := fun vs H Q _ => ∃ (a b : Addr) (size mark m p0 p1 p2 c0 c1 c2 : Int), vs = [.ref a, .int size, .int mark, .int m, .ref b] ∧ SqT K H a [.int c0, .int c1, .int c2] ∧ SqT K H b [.int p0, .int p1, .int p2] ∧
  (0 ≤ size ∧ size ≤ 10 ^ 12) ∧ (0 ≤ mark ∧ mark ≤ 10 ^ 12) ∧ (1 ≤ m ∧ m ≤ 6) ∧ (0 ≤ c0 ∧ c0 ≤ 100) ∧ (0 ≤ c1 ∧ c1 ≤ 100) ∧ (0 ≤ c2 ∧ c2 ≤ 100) ∧ Q (.int (costL size mark m p0 p1 p2 (c0, c1, c2))) H
theorem ok_cost {f : Addr} {fd : FuncData} (F : Fun K "_law_cost" "_law_cost" s__law_cost f fd) (T : Txt K mg) (D__law_token : Df P w K mg base 1 "_law_token" ["size", "mark", "m"] sp_token) : FnOk P w K mg base CX0 2 f fd ["counts", "size", "mark", "m", "prices"] (sp_cost K) := by
  refine F.ok sc__law_cost (fun vs H Q E h => ?_) (fun cdv A outer s H vs Q E hr h => ?_)
  · obtain ⟨_, _, _, _, _, _, _, _, _, _, _, rfl, _⟩ := h
    rfl
  · obtain ⟨a, b, size, mark, m, p0, p1, p2, c0, c1, c2, rfl, ha, hb, hz, hk, hm, h0, h1, h2, q⟩ := h
    refine ⟨_, (pss_one (ps_ret (pe_op op_mul (pe_call D__law_token.ok (hr.mono (by decide)) (by rfl) D__law_token.m D__law_token.kp D__law_token.b .nil pass0 (pa_cons (pv 1) (pa_cons (pv 2) (pa_cons (pv 3) pa_nil)))) (pe_op op_add (pe_op op_add (pe_op op_mul (pe_ix ix_tup (pv 0) pe_int (fun _ _ => rfl)) (pe_ix ix_tup (pv 4) pe_int (fun _ _ => rfl))) (pe_op op_mul (pe_ix ix_tup (pv 0) pe_int (fun _ _ => rfl)) (pe_ix ix_tup (pv 4) pe_int (fun _ _ => rfl)))) (pe_op op_mul (pe_ix ix_tup (pv 0) pe_int (fun _ _ => rfl)) (pe_ix ix_tup (pv 4) pe_int (fun _ _ => rfl))))))), ?_⟩
    have hsz : 0 ≤ size ∧ size ≤ 1000000000000 := hz
    have hmk : 0 ≤ mark ∧ mark ≤ 1000000000000 := hk
    have htok := tok_bd hsz hmk hm
    refine ⟨_, rfl, _, rfl, _, rfl, size, mark, m, rfl, hz.1, hm.1, hm.2, ?_⟩
    refine ⟨_, rfl, a, _, 0, _, rfl, rfl, ha, atI_nat (j := 0) rfl, _, rfl, b, _, 0, _, rfl, rfl, hb, atI_nat (j := 0) rfl, _, _, rfl, rfl, .inl ⟨by omega, by omega⟩, ?_⟩
    refine ⟨_, rfl, a, _, 1, _, rfl, rfl, ha, atI_nat (j := 1) rfl, _, rfl, b, _, 1, _, rfl, rfl, hb, atI_nat (j := 1) rfl, _, _, rfl, rfl, .inl ⟨by omega, by omega⟩, _, _, rfl, rfl, ?_⟩
    refine ⟨_, rfl, a, _, 2, _, rfl, rfl, ha, atI_nat (j := 2) rfl, _, rfl, b, _, 2, _, rfl, rfl, hb, atI_nat (j := 2) rfl, _, _, rfl, rfl, .inl ⟨by omega, by omega⟩, _, _, rfl, rfl, ?_⟩
    exact ⟨_, _, rfl, rfl, .inl ⟨by omega, by omega⟩, q⟩
def sp_counts : Sp := fun vs H Q _ => ∃ f spread m : Int, vs = [.int f, .int spread, .int m] ∧ (12 < f + (2 * f + spread + m) → Q .non H) ∧
  (f + (2 * f + spread + m) ≤ 12 → ∀ p, H p = none → Q (.ref p) (upd H p (.tup [.int (f + (2 * f + spread + m)), .int (if 0 < spread then 2 * f + spread + m else 1), .int (2 * f + spread + m)])))
theorem ok_counts {f : Addr} {fd : FuncData} (F : Fun K "_law_counts" "_law_counts" s__law_counts f fd) (T : Txt K mg) : FnOk P w K mg base CX0 1 f fd ["f", "spread", "m"] sp_counts := by
  refine F.ok sc__law_counts (fun vs H Q E h => ?_) (fun cdv A outer s H vs Q E hr h => ?_)
  · obtain ⟨_, _, _, rfl, _⟩ := h
    rfl
  · obtain ⟨f, spread, m, rfl, q0, q⟩ := h
    refine ⟨_, (pss_cons (ps_set (i := 3) sc__law_counts.nd rfl (by first | exact Or.inl rfl | exact Or.inr rfl) (pe_op op_add (pe_op op_add (pe_op op_mul pe_int (pv 0)) (pv 1)) (pv 2)))
  (pss_one (ps_ret (pe_ifExp (pt_cmpR op_le (pe_op op_add (pv 0) (pv 3)) pe_int (nomark _)) (pe_tup (pa_cons (pe_op op_add (pv 0) (pv 3)) (pa_cons (pe_ifExp (pt_cmpR op_gt (pv 1) pe_int (nomark _)) (pv 3) pe_int) (pa_cons (pv 3) pa_nil)))) pe_non)))), ?_⟩
    refine ⟨_, rfl, _, _, rfl, rfl, .inl ⟨by decide, by decide⟩, _, rfl, _, _, rfl, rfl, _, rfl, _, _, rfl, rfl, ?_⟩
    refine ⟨_, rfl, _, rfl, _, _, rfl, rfl, _, _, rfl, rfl, _, rfl, ite_dec (fun z0 => ?_) (fun z0 => ?_)⟩
    · refine ⟨_, rfl, _, rfl, _, _, rfl, rfl, _, rfl, _, _, rfl, rfl, _, rfl, ite_dec (fun z => ?_) (fun z => ?_)⟩
      · refine ⟨_, rfl, _, rfl, (by show 3 ≤ sizeLine; decide), fun p hp => ?_⟩
        have := q z0 p hp
        rw [if_pos z] at this
        exact this
      · refine ⟨_, rfl, (by show 3 ≤ sizeLine; decide), fun p hp => ?_⟩
        have := q z0 p hp
        rw [if_neg z] at this
        exact this
    · exact q0 (by omega)
end
end K55

namespace K55
open PySem PySem.Spec PyProof.Rows L2 Hl
/-- triples of ints -/
abbrev Tr := Int × Int × Int
def ErT (H : Hp) (y : V) (t : Tr) : Prop := ∃ a, y = .ref a ∧ H a = some (.tup [.int t.1, .int t.2.1, .int t.2.2])
theorem ErT.mono {H H' : Hp} (e : Same H H') {y : V} {t : Tr} (h : ErT H y t) : ErT H' y t := let ⟨a, h1, h2⟩ := h; ⟨a, h1, e _ _ h2⟩
def FoundAt (H : Hp) (p : Addr) (L : List Tr) : Prop := ∃ vs, H p = some (.lst vs) ∧ Ers ErT H vs L
theorem FoundAt.mono {H H' : Hp} (e : Same H H') {p : Addr} {L : List Tr} (h : FoundAt H p L) : FoundAt H' p L := let ⟨vs, h1, h2⟩ := h; ⟨vs, e _ _ h1, h2.mono fun _ _ z => z.mono e⟩
/-- what a triple that is found is -/
def Good (f spread m : Int) (t : Tr) : Prop := ∃ w2, m ≤ t.1 ∧ f + 1 ≤ t.1 ∧ t.1 ≤ 12 ∧ 1 ≤ w2 ∧ w2 ≤ t.1 - f ∧ 1 ≤ t.2.1 ∧ t.2.1 ≤ t.1 - f ∧ 1 ≤ t.2.2 ∧ t.2.2 ≤ t.1 - f ∧ safeB t.1 f m (t.1 - f) w2 t.2.1 spread = true ∧ farB t.1 f m w2 t.2.1 spread t.2.2 = true
def t0 (f spread m : Int) : Tr := (f + (2 * f + spread + m), if 0 < spread then 2 * f + spread + m else 1, 2 * f + spread + m)
def sp_all_counts : Sp := fun vs H Q _ => ∃ f spread m : Int, vs = [.int f, .int spread, .int m] ∧ (0 ≤ f ∧ f ≤ 4) ∧ (0 ≤ spread ∧ spread ≤ 12) ∧ (1 ≤ m ∧ m ≤ 6) ∧
  ∀ p H' L, Same H H' → H p = none → FoundAt H' p L → L.length ≤ 100000 → (∀ t ∈ L, Good f spread m t) → (f + (2 * f + spread + m) ≤ 12 → t0 f spread m ∈ L) → Q (.ref p) H'
theorem safe_t0 {f spread m : Int} (hf : 0 ≤ f) (hs : 0 ≤ spread) (hm : 1 ≤ m) : safeB (f + (2 * f + spread + m)) f m (2 * f + spread + m) (2 * f + spread + m) (if 0 < spread then 2 * f + spread + m else 1) spread = true := by
  unfold safeB
  rw [if_neg (by omega)]
  split
  · exact decide_eq_true (by omega)
  · exact decide_eq_true (by rw [if_pos (by omega)]; omega)
theorem far_t0 {f spread m : Int} (hf : 0 ≤ f) (hs : 0 ≤ spread) (hm : 1 ≤ m) : farB (f + (2 * f + spread + m)) f m (2 * f + spread + m) (if 0 < spread then 2 * f + spread + m else 1) spread (2 * f + spread + m) = true := by
  unfold farB nearB
  rw [decide_eq_true (by omega), Bool.true_and]
  by_cases h : spread = 0
  · rw [decide_eq_true h]; rfl
  · rw [show decide (spread = 0) = false from decide_eq_false h, Bool.false_or]
    exact decide_eq_true (by rw [if_pos (by omega)]; omega)
section
variable {P : Program} {w : World} {K : PySem.W.Frag} {mg : Str → Option Value} {base : Heap}
theorem ok_all_counts {f : Addr} {fd : FuncData} (F : Fun K "_law_all_counts" "_law_all_counts" s__law_all_counts f fd) (T : Txt K mg) (D__law_is_safe : Df P w K mg base 1 "_law_is_safe" ["row", "spread"] (sp_is_safe K)) (D__law_sees : Df P w K mg base 1 "_law_sees" ["row", "spread", "r"] (sp_sees K)) :
    FnOk P w K mg base CX0 2 f fd ["f", "spread", "m"] sp_all_counts := by
  refine F.ok sc__law_all_counts (fun vs H Q E h => ?_) (fun cdv A outer s H vs Q E hr h => ?_)
  · obtain ⟨_, _, _, rfl, _⟩ := h
    rfl
  · obtain ⟨f, spread, m, rfl, hf, hs, hm, q⟩ := h
    refine ⟨_, (pss_cons (ps_set (i := 3) sc__law_all_counts.nd rfl (by first | exact Or.inl rfl | exact Or.inr rfl) (pe_lst pa_nil))
  (pss_cons (ps_for PassesOwn.never rfl (pi_range2 (by rfl) T.range (pa_cons (pe_callB (call_max2 rfl) (by rfl) T.max (by decide +kernel) (pa_cons (pv 2) (pa_cons (pe_op op_add (pv 0) pe_int) pa_nil))) (pa_cons pe_int pa_nil))) (pg_name (i := 4) sc__law_all_counts.nd rfl (by first | exact Or.inl rfl | exact Or.inr rfl))
  (pss_cons (ps_set (i := 5) sc__law_all_counts.nd rfl (by first | exact Or.inl rfl | exact Or.inr rfl) (pe_op op_sub (pv 4) (pv 0)))
  (pss_one (ps_for PassesOwn.never rfl (pi_range2 (by rfl) T.range (pa_cons pe_int (pa_cons (pe_op op_add (pv 5) pe_int) pa_nil))) (pg_name (i := 6) sc__law_all_counts.nd rfl (by first | exact Or.inl rfl | exact Or.inr rfl))
  (pss_one (ps_for PassesOwn.never rfl (pi_range2 (by rfl) T.range (pa_cons pe_int (pa_cons (pe_op op_add (pv 5) pe_int) pa_nil))) (pg_name (i := 7) sc__law_all_counts.nd rfl (by first | exact Or.inl rfl | exact Or.inr rfl))
  (pss_cons (ps_set (i := 8) sc__law_all_counts.nd rfl (by first | exact Or.inl rfl | exact Or.inr rfl) (pe_tup (pa_cons (pv 4) (pa_cons (pv 0) (pa_cons pe_int (pa_cons (pv 2) (pa_cons (pv 5) (pa_cons (pv 6) (pa_cons (pv 7) pa_nil)))))))))
  (pss_one (ps_if (pt_val (pe_call D__law_is_safe.ok (hr.mono (by decide)) (by rfl) D__law_is_safe.m D__law_is_safe.kp D__law_is_safe.b .nil pass0 (pa_cons (pv 8) (pa_cons (pv 1) pa_nil))))
  (pss_cons (ps_setLc (i := 9) (own := [("r", 10)]) (by rfl) sc__law_all_counts.nd rfl rfl (sw_true rfl rfl rfl (by decide +kernel)) (pi_range2 (by rfl) T.range (pa_cons pe_int (pa_cons (pe_op op_add (pv 5) pe_int) pa_nil))) (blkOk_by (own := [("r", 10)]) (N := N__law_all_counts) (sc := defScope s__law_all_counts) (by decide +kernel)) (fun _ _ _ _ _ => (pg_name (i := 10) sc__law_all_counts.nd rfl (by first | exact Or.inl rfl | exact Or.inr rfl))) (fun _ _ _ _ _ => (pts_one (pt_val (pe_ix (kix_tup (K := K) rfl) (pe_call D__law_sees.ok (hr.mono (by decide)) (by rfl) D__law_sees.m D__law_sees.kp D__law_sees.b .nil pass0 (pa_cons (pv 8) (pa_cons (pv 1) (pa_cons (pv 10) pa_nil)))) pe_int (fun _ _ => rfl))))) (fun _ _ _ _ _ => (pv 10)))
  (pss_one (ps_set (i := 3) sc__law_all_counts.nd rfl (by first | exact Or.inl rfl | exact Or.inr rfl) (pe_op op_cat (pv 3) (pe_lc (own := [("r", 10)]) (by rfl) sc__law_all_counts.nd (pi_list (pv 9)) (blkOk_by (own := [("r", 10)]) (N := N__law_all_counts) (sc := defScope s__law_all_counts) (by decide +kernel)) (fun _ _ _ _ _ => (pg_name (i := 10) sc__law_all_counts.nd rfl (by first | exact Or.inl rfl | exact Or.inr rfl))) (fun _ _ _ _ _ => pts_nil) (fun _ _ _ _ _ => (pe_tup (pa_cons (pv 4) (pa_cons (pv 7) (pa_cons (pv 10) pa_nil))))))))))
  pss_nil)))))))))
  (pss_one (ps_ret (pv 3))))), ?_⟩
    refine ⟨Nat.zero_le _, fun p0 hp0 => ?_⟩
    have s0 := same_new (o := .lst []) hp0
    -- for k in range(max(m, f + 1), 13)
    refine ⟨_, rfl, _, rfl, _, _, rfl, rfl, m, f + 1, rfl, ?_⟩
    generalize hlo : (if f + 1 > m then f + 1 else m) = lo
    have hlo' : m ≤ lo ∧ f + 1 ≤ lo ∧ lo ≤ f + (2 * f + spread + m) ∧ 1 ≤ lo ∧ lo ≤ 6 := by
      by_cases h : f + 1 > m
      · rw [if_pos h] at hlo; omega
      · rw [if_neg h] at hlo; omega
    obtain ⟨hl1, hl2, hl3, hl4, hl5⟩ := hlo'
    refine ⟨lo, 13, rfl, ⟨by omega, by omega, by decide, by decide⟩, ?_⟩
    refine for_range (n := (13 - lo).toNat) (fun i σ H' => ∃ p x4 x5 x6 x7 x8 x9 x10 L, σ = [some (.int f), some (.int spread), some (.int m), some (.ref p), x4, x5, x6, x7, x8, x9, x10] ∧ Same H H' ∧ H p = none ∧ FoundAt H' p L ∧ L.length ≤ 1728 * i ∧ (∀ t ∈ L, Good f spread m t) ∧ (f + (2 * f + spread + m) < lo + i → t0 f spread m ∈ L))
      ⟨p0, none, none, none, none, none, none, none, [], rfl, s0, hp0, ⟨[], upd_same, .nil⟩, Nat.zero_le _, by simp, fun h => by omega⟩ ?_ ?_
    · rintro i σ H1 hi ⟨p, x4, x5, x6, x7, x8, x9, x10, L, rfl, sm, hpn, hF, hlen, hgood, hin⟩
      generalize hk : lo + (i : Int) = k
      have hk1 : m ≤ k ∧ f + 1 ≤ k ∧ k ≤ 12 := by omega
      refine ⟨_, rfl, _, rfl, _, _, rfl, rfl, ?_⟩
      -- for w2 in range(1, most + 1)
      refine ⟨_, rfl, _, _, rfl, rfl, 1, k - f + 1, rfl, ⟨by decide, by decide, by omega, by omega⟩, ?_⟩
      refine for_range (n := (k - f + 1 - 1).toNat) (fun j σ H' => ∃ p x6 x7 x8 x9 x10 L, σ = [some (.int f), some (.int spread), some (.int m), some (.ref p), some (.int k), some (.int (k - f)), x6, x7, x8, x9, x10] ∧ Same H H' ∧ H p = none ∧ FoundAt H' p L ∧ L.length ≤ 1728 * i + 144 * j ∧ (∀ t ∈ L, Good f spread m t) ∧ (f + (2 * f + spread + m) < k ∨ (f + (2 * f + spread + m) = k ∧ 2 * f + spread + m < 1 + (j : Int)) → t0 f spread m ∈ L))
        ⟨p, x6, x7, x8, x9, x10, L, rfl, sm, hpn, hF, hlen, hgood, fun h => hin (by omega)⟩ ?_ ?_
      · rintro j σ H2 hj ⟨p, x6, x7, x8, x9, x10, L, rfl, sm, hpn, hF, hlen, hgood, hin⟩
        generalize hw : (1 : Int) + (j : Int) = w2
        have hw1 : 1 ≤ w2 ∧ w2 ≤ k - f := by omega
        -- for g in range(1, most + 1)
        refine ⟨_, rfl, _, _, rfl, rfl, 1, k - f + 1, rfl, ⟨by decide, by decide, by omega, by omega⟩, ?_⟩
        refine for_range (n := (k - f + 1 - 1).toNat) (fun l σ H' => ∃ p x7 x8 x9 x10 L, σ = [some (.int f), some (.int spread), some (.int m), some (.ref p), some (.int k), some (.int (k - f)), some (.int w2), x7, x8, x9, x10] ∧ Same H H' ∧ H p = none ∧ FoundAt H' p L ∧ L.length ≤ 1728 * i + 144 * j + 12 * l ∧ (∀ t ∈ L, Good f spread m t) ∧
            (f + (2 * f + spread + m) < k ∨ (f + (2 * f + spread + m) = k ∧ (2 * f + spread + m < w2 ∨ (2 * f + spread + m = w2 ∧ (if 0 < spread then 2 * f + spread + m else 1) < 1 + (l : Int)))) → t0 f spread m ∈ L))
          ⟨p, x7, x8, x9, x10, L, rfl, sm, hpn, hF, hlen, hgood, fun h => hin (by split at h <;> omega)⟩ ?_ ?_
        · rintro l σ H3 hl ⟨p, x7, x8, x9, x10, L, rfl, sm, hpn, hF, hlen, hgood, hin⟩
          generalize hg : (1 : Int) + (l : Int) = g
          have hg1 : 1 ≤ g ∧ g ≤ k - f := by omega
          refine ⟨_, rfl, _, rfl, _, rfl, _, rfl, _, rfl, _, rfl, (by show 7 ≤ sizeLine; decide), fun r hr7 => ?_⟩
          have s7 := same_new (o := .tup [.int k, .int f, .int 1, .int m, .int (k - f), .int w2, .int g]) hr7
          refine ⟨_, rfl, _, rfl, r, k, f, 1, m, k - f, w2, g, spread, rfl, SqT.of upd_same, _, rfl, ?_⟩
          have sm3 := sm.trans s7
          have hF3 := hF.mono s7
          have hrow : upd H3 r (.tup [.int k, .int f, .int 1, .int m, .int (k - f), .int w2, .int g]) r = some (.tup (row7 k f 1 m (k - f) w2 g)) := upd_same
          generalize upd H3 r (.tup [.int k, .int f, .int 1, .int m, .int (k - f), .int w2, .int g]) = H4 at s7 sm3 hF3 hrow ⊢
          cases hsafe : safeB k f m (k - f) w2 g spread with
          | false =>
            refine iteF ⟨p, _, _, _, _, L, rfl, sm3, hpn, hF3, by omega, hgood, fun h => ?_⟩
            by_cases e : f + (2 * f + spread + m) = k ∧ 2 * f + spread + m = w2 ∧ (if 0 < spread then 2 * f + spread + m else 1) = g
            · obtain ⟨e1, e2, e3⟩ := e
              have z := safe_t0 (f := f) (spread := spread) (m := m) hf.1 hs.1 hm.1
              rw [show k - f = w2 by omega] at hsafe
              rw [e3, e1, e2, hsafe] at z
              exact absurd z Bool.false_ne_true
            · refine hin ?_
              generalize (if 0 < spread then 2 * f + spread + m else 1) = g0 at h e ⊢
              omega
          | true =>
            refine iteT ?_
            refine ⟨_, rfl, _, _, rfl, rfl, 1, k - f + 1, rfl, ⟨by decide, by decide, by omega, by omega⟩, fun D hD => ?_⟩
            refine lc_same (walk_range (lo := 1) (n := (k - f + 1 - 1).toNat)) (by omega) hD ErI (fun _ _ _ _ _ _ h => h) (fun _ _ _ _ _ h => h) (fun i' rs => rs.length ≤ i' ∧ ∀ x, x ∈ rs ↔ (1 ≤ x ∧ x < 1 + (i' : Int) ∧ farB k f m w2 g spread x = true)) ⟨Nat.le_refl _, fun x => ⟨by simp, fun h => by omega⟩⟩ (fun _ _ => trivial) ?_ ?_
            · rintro i' x H5 H6 rs hi' sm5 - ⟨hr1, hr2⟩ ⟨rfl, rfl⟩ A B hA hB
              refine ⟨rfl, ?_⟩
              refine ⟨_, rfl, _, rfl, _, rfl, r, k, f, 1, m, k - f, w2, g, spread, 1 + (i' : Int), rfl, SqT.of (sm5 _ _ hrow), fun p2 hp2 => ⟨p2, _, 1, _, rfl, rfl, SqT.of upd_same, atI_nat (j := 1) rfl, _, rfl, ?_⟩⟩
              cases hfar : farB k f m w2 g spread (1 + (i' : Int)) with
              | true =>
                refine iteT ⟨_, rfl, hA _ _ _ (same_new hp2) rfl ⟨by rw [List.length_append]; exact Nat.succ_le_succ hr1, fun y => ?_⟩⟩
                rw [List.mem_append, List.mem_singleton, hr2]
                constructor
                · rintro (h | rfl)
                  · exact ⟨h.1, by omega, h.2.2⟩
                  · exact ⟨by omega, by omega, hfar⟩
                · intro h
                  by_cases e : y = 1 + (i' : Int)
                  · exact .inr e
                  · exact .inl ⟨h.1, by omega, h.2.2⟩
              | false =>
                refine iteF (hB _ (same_new hp2) ⟨Nat.le_succ_of_le hr1, fun y => ?_⟩)
                rw [hr2]
                constructor
                · exact fun h => ⟨h.1, by omega, h.2.2⟩
                · intro h
                  by_cases e : y = 1 + (i' : Int)
                  · rw [e, hfar] at h
                    exact absurd h.2.2 Bool.false_ne_true
                  · exact ⟨h.1, by omega, h.2.2⟩
            · rintro H5 us rs sm5 hD5 hE ⟨hr1, hr2⟩
              have e5 := hE.ints
              subst e5
              -- found = found + [(k, g, r) for r in some]
              refine ⟨_, rfl, _, rfl, D, rfl, ⟨_, SqL.of hD5⟩, fun D2 hD2 => ?_⟩
              refine lc_same (walk_list (xs := rs.map V.int)) (by rw [List.length_map]; omega) hD2 (fun H y t => ∃ a, y = .ref a ∧ a ≠ D2 ∧ H a = some (.tup [.int t.1, .int t.2.1, .int t.2.2])) (fun H H' y t _ e ⟨a, h1, h2, h3⟩ => ⟨a, h1, h2, e _ _ h3⟩) (fun H o y t _ ⟨a, h1, h2, h3⟩ => ⟨a, h1, h2, by rw [upd_ne h2]; exact h3⟩)
                (fun i' l' => l' = (rs.take i').map fun x => ((k, g, x) : Tr)) rfl (fun H6 sm6 => SqL.of (sm6 _ _ hD5)) ?_ ?_
              · rintro i' x H6 H7 l' hi' sm6 ⟨acc, hacc⟩ rfl ⟨rfl, hx⟩ A B hA hB
                obtain ⟨n, rfl, hn⟩ := mem_ints hx
                refine ⟨rfl, t_yes ?_⟩
                refine ⟨_, rfl, _, rfl, _, rfl, (by show 3 ≤ sizeLine; decide), fun a ha => ?_⟩
                refine hA _ (k, g, n) _ (same_new ha) ⟨a, rfl, (ne_of_none hacc ha).symm, upd_same⟩ ?_
                rw [List.take_add_one, hn, List.map_append]
                rfl
              · rintro H6 us l' sm6 hD6 hE6 rfl
                rw [List.length_map, List.take_length] at hE6
                obtain ⟨vs0, hv1, hv2⟩ := (hF3.mono sm5).mono sm6
                have hE7 : Ers ErT H6 us (rs.map fun x => ((k, g, x) : Tr)) := hE6.mono' fun y t ⟨a, h1, _, h3⟩ => ⟨a, h1, h3⟩
                have l1 := hv2.len
                have l2 := hE7.len
                rw [List.length_map] at l2
                refine ⟨p, D2, _, _, rfl, rfl, hv1, hD6, ?_, fun p' hp' => ?_⟩
                · show vs0.length + us.length ≤ sizeLine
                  refine Nat.le_trans (m := 100000) (by omega) (by decide)
                · have s8 := same_new (o := .lst (vs0 ++ us)) hp'
                  refine ⟨p', _, _, _, _, L ++ rs.map fun x => ((k, g, x) : Tr), rfl, ((sm3.trans sm5).trans sm6).trans s8, ((sm3.trans sm5).trans sm6).free hp', ⟨_, upd_same, (hv2.app hE7).mono fun _ _ z => z.mono s8⟩, ?_, ?_, ?_⟩
                  · rw [List.length_append, List.length_map]
                    omega
                  · intro t ht
                    rcases List.mem_append.mp ht with ht | ht
                    · exact hgood t ht
                    · obtain ⟨x, hx, rfl⟩ := List.mem_map.mp ht
                      have hx' := (hr2 x).mp hx
                      exact ⟨w2, hk1.1, hk1.2.1, hk1.2.2, hw1.1, hw1.2, hg1.1, hg1.2, hx'.1, by show x ≤ k - f; omega, hsafe, hx'.2.2⟩
                  · intro h
                    by_cases e : f + (2 * f + spread + m) = k ∧ 2 * f + spread + m = w2 ∧ (if 0 < spread then 2 * f + spread + m else 1) = g
                    · obtain ⟨e1, e2, e3⟩ := e
                      refine List.mem_append.mpr (.inr (List.mem_map.mpr ⟨2 * f + spread + m, (hr2 _).mpr ⟨by omega, by omega, ?_⟩, ?_⟩))
                      · have z := far_t0 (f := f) (spread := spread) (m := m) hf.1 hs.1 hm.1
                        rw [e3, e1] at z
                        rw [← e2]
                        exact z
                      · show _ = t0 f spread m
                        unfold t0
                        rw [e3, e1]
                    · refine List.mem_append.mpr (.inl (hin ?_))
                      generalize (if 0 < spread then 2 * f + spread + m else 1) = g0 at h e ⊢
                      omega
        · rintro σ H3 ⟨p, x7, x8, x9, x10, L, rfl, sm, hpn, hF, hlen, hgood, hin⟩
          refine ⟨p, _, _, _, _, _, L, rfl, sm, hpn, hF, by omega, hgood, fun h => hin ?_⟩
          split <;> omega
      · rintro σ H3 ⟨p, x6, x7, x8, x9, x10, L, rfl, sm, hpn, hF, hlen, hgood, hin⟩
        exact ⟨p, _, _, _, _, _, _, _, L, rfl, sm, hpn, hF, by omega, hgood, fun h => hin (by omega)⟩
    · rintro σ H1 ⟨p, x4, x5, x6, x7, x8, x9, x10, L, rfl, sm, hpn, hF, hlen, hgood, hin⟩
      exact ⟨_, rfl, q p H1 L sm hpn hF (by omega) hgood fun h => hin (by omega)⟩
end
end K55

namespace K55
open PySem PySem.Spec PyProof.Rows L2 Hl
/-- keywords alone, in the parameters' sequence -/
def gK {α : Type} (us ws : List α) : List α := match us with
  | [] => ws
  | _ => []
theorem gK_rel {vs : List V} {us : List Value} {zs : List V} {ws : List Value} (h : Vals vs us) (h' : Vals zs ws) : Vals (gK vs zs) (gK us ws) := by
  cases h with
  | nil => exact h'
  | cons _ _ => exact .nil
def trD (t : Tr) : PyData := .tuple [.int t.1, .int t.2.1, .int t.2.2]
theorem tr_lay (t : Tr) : (trD t).canLay0 = true := by simp [trD, PyData.canLay0, PyData.canLayAll0]
theorem tr_depth (t : Tr) : (trD t).depth ≤ 2 := by simp [trD, PyData.depth, PyData.depthAll]
theorem trs_lay : ∀ L : List Tr, PyData.canLayAll0 (L.map trD) = true
  | [] => by simp [PyData.canLayAll0]
  | t :: r => by simp [PyData.canLayAll0, tr_lay t, trs_lay r]
theorem trs_depth : ∀ L : List Tr, PyData.depthAll (L.map trD) ≤ 2
  | [] => by simp [PyData.depthAll]
  | t :: r => by
    have h1 := trs_depth r
    have h2 := tr_depth t
    simp only [List.map_cons, PyData.depthAll]
    omega
theorem tr_shaped (t : Tr) : SeqAt.shaped (trD t) = true := by
  show ((trD t).canLay0 && decide ((trD t).depth ≤ 64)) = true
  rw [tr_lay, Bool.true_and]
  exact decide_eq_true (Nat.le_trans (tr_depth t) (by decide))
theorem trs_shaped (L : List Tr) : SeqAt.shaped (.list (L.map trD)) = true := by
  show ((PyData.list (L.map trD)).canLay0 && decide ((PyData.list (L.map trD)).depth ≤ 64)) = true
  have h := trs_depth L
  rw [Bool.and_eq_true]
  refine ⟨?_, decide_eq_true ?_⟩
  · simp [PyData.canLay0, trs_lay]
  · simp only [PyData.depth]; omega
theorem FoundAt.dp {K : PySem.W.Frag} {H : Hp} {p : Addr} {L : List Tr} (h : FoundAt H p L) : Dp K H (.ref p) (.list (L.map trD)) := by
  obtain ⟨vs, h1, h2⟩ := h
  refine .lst (SqL.of h1) ?_
  clear h1
  induction h2 with
  | nil => exact .nil
  | cons h _ ih =>
    obtain ⟨a, rfl, ha⟩ := h
    exact .cons (.tup (SqT.of ha) (.cons (.int _) (.cons (.int _) (.cons (.int _) .nil)))) ih
theorem FoundAt.frm {w q : Addr} {H H' : Hp} (e : Frm w q H H') (hh : HeapAt H w q) {p : Addr} {L : List Tr} (n1 : p ≠ w) (n2 : p ≠ q) (h : FoundAt H p L) : FoundAt H' p L := by
  obtain ⟨vs, h1, h2⟩ := h
  obtain ⟨cs, st, hw, hq, _⟩ := hh
  refine ⟨vs, e _ _ n1 n2 h1, h2.mono fun y t ⟨a, ea, ha⟩ => ⟨a, ea, e _ _ (ne_of ha hw (by intro z; cases z)) (ne_of ha hq (by intro z; cases z)) ha⟩⟩
/-- what is found is never less -/
theorem good_ge {f spread m : Int} {t : Tr} (hf : 0 ≤ f) (hs : 0 ≤ spread) (hm : 1 ≤ m) (h : Good f spread m t) : (t0 f spread m).1 ≤ t.1 ∧ (t0 f spread m).2.1 ≤ t.2.1 ∧ (t0 f spread m).2.2 ≤ t.2.2 ∧ t.1 ≤ 12 ∧ t.2.1 ≤ 12 ∧ t.2.2 ≤ 12 := by
  obtain ⟨w2, h1, h2, h3, h4, h5, h6, h7, h8, h9, hsafe, hfar⟩ := h
  unfold safeB at hsafe
  unfold farB nearB at hfar
  rw [Bool.and_eq_true] at hfar
  have hn := of_decide_eq_true hfar.1
  show f + (2 * f + spread + m) ≤ t.1 ∧ (if 0 < spread then 2 * f + spread + m else 1) ≤ t.2.1 ∧ 2 * f + spread + m ≤ t.2.2 ∧ _
  by_cases e1 : 2 * (t.1 - f) ≤ t.1 + spread + f
  · rw [if_pos e1] at hsafe
    cases hsafe
  · rw [if_neg e1] at hsafe
    by_cases e2 : spread = 0
    · rw [if_neg (by omega)]
      omega
    · rw [if_neg e2] at hsafe
      have := of_decide_eq_true hsafe
      rw [if_pos (by omega)]
      omega
theorem costI_eq (f spread m size mark p0 p1 p2 : Int) : costI f spread m size mark p0 p1 p2 = costL size mark m p0 p1 p2 (t0 f spread m) := rfl
/-- nothing costs less -/
theorem cost_le {f spread m size mark p0 p1 p2 : Int} {t : Tr} (hz : 0 ≤ size ∧ size ≤ 10 ^ 12) (hk : 0 ≤ mark ∧ mark ≤ 10 ^ 12) (hm : 1 ≤ m ∧ m ≤ 6) (h0 : 0 ≤ p0) (h1 : 0 ≤ p1) (h2 : 0 ≤ p2)
    (e : (t0 f spread m).1 ≤ t.1 ∧ (t0 f spread m).2.1 ≤ t.2.1 ∧ (t0 f spread m).2.2 ≤ t.2.2) : costI f spread m size mark p0 p1 p2 ≤ costL size mark m p0 p1 p2 t := by
  rw [costI_eq]
  unfold costL
  have htok := tok_bd (size := size) (mark := mark) (m := m) hz hk hm
  refine Int.mul_le_mul_of_nonneg_left ?_ htok.1
  have a := Int.mul_le_mul_of_nonneg_right e.1 h0
  have b := Int.mul_le_mul_of_nonneg_right e.2.1 h1
  have c := Int.mul_le_mul_of_nonneg_right e.2.2 h2
  omega
section
variable {P : Program} {w : World} {K : PySem.W.Frag} {mg : Str → Option Value} {base : Heap}
theorem kb_best {f : Addr} {fd : FuncData} (F : Fun K "best_m" "best_m" s_best_m f fd) : KBinds K fd ["f", "spread", "size", "mark", "prices"] ["f", "spread", "size", "mark", "prices"] gK gK := by
  obtain ⟨oc, od, kV, doc, pm, an, cdv, ct, osl, rfl, lk, hcd⟩ := F.ex
  exact ⟨fun s us ws _ hl => match us, ws, hl with | [], [_, _, _, _, _], _ => .of_eq rfl, gK_rel⟩
theorem kb_cost {f : Addr} {fd : FuncData} (F : Fun K "cost_of" "cost_of" s_cost_of f fd) : KBinds K fd ["f", "spread", "m", "size", "mark", "prices"] ["f", "spread", "m", "size", "mark", "prices"] gK gK := by
  obtain ⟨oc, od, kV, doc, pm, an, cdv, ct, osl, rfl, lk, hcd⟩ := F.ex
  exact ⟨fun s us ws _ hl => match us, ws, hl with | [], [_, _, _, _, _, _], _ => .of_eq rfl, gK_rel⟩
theorem kb_lc {f : Addr} {fd : FuncData} (F : Fun K "least_counts" "least_counts" s_least_counts f fd) : KBinds K fd ["f", "spread", "m"] ["f", "spread", "m"] gK gK := by
  obtain ⟨oc, od, kV, doc, pm, an, cdv, ct, osl, rfl, lk, hcd⟩ := F.ex
  exact ⟨fun s us ws _ hl => match us, ws, hl with | [], [_, _, _], _ => .of_eq rfl, gK_rel⟩
theorem kb_ln {f : Addr} {fd : FuncData} (F : Fun K "least_numbers" "least_numbers" s_least_numbers f fd) : KBinds K fd ["f", "spread", "d", "m"] ["f", "spread", "d", "m"] gK gK := by
  obtain ⟨oc, od, kV, doc, pm, an, cdv, ct, osl, rfl, lk, hcd⟩ := F.ex
  exact ⟨fun s us ws _ hl => match us, ws, hl with | [], [_, _, _, _], _ => .of_eq rfl, gK_rel⟩
theorem kb_ts {f : Addr} {fd : FuncData} (F : Fun K "token_size" "token_size" s_token_size f fd) : KBinds K fd ["size", "mark", "m"] ["size", "mark", "m"] gK gK := by
  obtain ⟨oc, od, kV, doc, pm, an, cdv, ct, osl, rfl, lk, hcd⟩ := F.ex
  exact ⟨fun s us ws _ hl => match us, ws, hl with | [], [_, _, _], _ => .of_eq rfl, gK_rel⟩

def sp_best_right (K : PySem.W.Frag) : Sp := fun vs H Q _ => ∃ (f spread size mark p0 p1 p2 : Int) (a : Addr), vs = [.int f, .int spread, .int size, .int mark, .ref a] ∧ SqT K H a [.int p0, .int p1, .int p2] ∧ (0 ≤ f ∧ f ≤ 4) ∧ (0 ≤ spread ∧ spread ≤ 12) ∧
  (0 ≤ size ∧ size ≤ 10 ^ 12) ∧ (0 ≤ mark ∧ mark ≤ 10 ^ 12) ∧ ∀ H', Same H H' → Q (.bl true) H'
theorem ok_best_right {f : Addr} {fd : FuncData} (F : Fun K "_law_best_right" "_law_best_right" s__law_best_right f fd) (T : Txt K mg) (D__law_same : Df P w K mg base 2 "_law_same" ["value", "due"] (sp_same K)) (D__law_counts : Df P w K mg base 1 "_law_counts" ["f", "spread", "m"] sp_counts)
    (D_best_m : Df P w K mg base 3 "best_m" ["f", "spread", "size", "mark", "prices"] (sp_best_m K)) (kb_best_m : KBinds K D_best_m.fd ["f", "spread", "size", "mark", "prices"] ["f", "spread", "size", "mark", "prices"] gK gK) (D__law_cost : Df P w K mg base 2 "_law_cost" ["counts", "size", "mark", "m", "prices"] (sp_cost K)) :
    FnOk P w K mg base CX0 4 f fd ["f", "spread", "size", "mark", "prices"] (sp_best_right K) := by
  refine F.ok sc__law_best_right (fun vs H Q E h => ?_) (fun cdv A outer s H vs Q E hr h => ?_)
  · obtain ⟨_, _, _, _, _, _, _, _, rfl, _⟩ := h
    rfl
  · obtain ⟨f, spread, size, mark, p0, p1, p2, a, rfl, hp, hf, hs, hz, hk, q⟩ := h
    refine ⟨_, (pss_cons (ps_set (i := 5) sc__law_best_right.nd rfl (by first | exact Or.inl rfl | exact Or.inr rfl) pe_non)
  (pss_cons (ps_for PassesOwn.never rfl (pi_range2 (by rfl) T.range (pa_cons pe_int (pa_cons pe_int pa_nil))) (pg_name (i := 6) sc__law_best_right.nd rfl (by first | exact Or.inl rfl | exact Or.inr rfl))
  (pss_cons (ps_set (i := 7) sc__law_best_right.nd rfl (by first | exact Or.inl rfl | exact Or.inr rfl) (pe_call D__law_counts.ok (hr.mono (by decide)) (by rfl) D__law_counts.m D__law_counts.kp D__law_counts.b .nil pass0 (pa_cons (pv 0) (pa_cons (pv 1) (pa_cons (pv 6) pa_nil)))))
  (pss_one (ps_if (pt_cmpR op_notN (pv 7) pe_non (nomark _))
  (pss_cons (ps_set (i := 8) sc__law_best_right.nd rfl (by first | exact Or.inl rfl | exact Or.inr rfl) (pe_call D__law_cost.ok (hr.mono (by decide)) (by rfl) D__law_cost.m D__law_cost.kp D__law_cost.b .nil pass0 (pa_cons (pv 7) (pa_cons (pv 2) (pa_cons (pv 3) (pa_cons (pv 6) (pa_cons (pv 4) pa_nil)))))))
  (pss_one (ps_if (PW.pt (pw_or (pt_cmpR op_isN (pv 5) pe_non (nomark _)) (pw_or1 (pt_cmpR op_lt (pv 8) (pe_ix ix_tup (pv 5) pe_int (fun _ _ => rfl)) (nomark _)))))
  (pss_one (ps_set (i := 5) sc__law_best_right.nd rfl (by first | exact Or.inl rfl | exact Or.inr rfl) (pe_tup (pa_cons (pv 6) (pa_cons (pv 8) pa_nil)))))
  pss_nil)))
  pss_nil))))
  (pss_one (ps_ret (pe_call D__law_same.ok (hr.mono (by decide)) (by rfl) D__law_same.m D__law_same.kp D__law_same.b .nil pass0 (pa_cons (pe_callK0 D_best_m.ok (hr.mono (by decide)) (by rfl) D_best_m.m D_best_m.kp kb_best_m pass0 (pk_cons (pv 0) (pk_cons (pv 1) (pk_cons (pv 2) (pk_cons (pv 3) (pk_cons (pv 4) pk_nil)))))) (pa_cons (pv 5) pa_nil))))))), ?_⟩
    refine ⟨1, 7, rfl, (by decide), ?_⟩
    refine for_range (n := 6) (fun i σ H' => ∃ v x y z, σ = [some (.int f), some (.int spread), some (.int size), some (.int mark), some (.ref a), some v, x, y, z] ∧ Same H H' ∧ BestAt H' v (bestI f spread size mark p0 p1 p2 i))
      ⟨.non, none, none, none, rfl, Same.refl _, rfl⟩ ?_ ?_
    · rintro i σ H1 hi ⟨v, x, y, z, rfl, sm, hb⟩
      refine ⟨_, rfl, _, rfl, _, rfl, f, spread, 1 + (i : Int), rfl, fun z0 => ?_, fun z0 t ht => ?_⟩
      · refine ⟨_, rfl, rfl, _, rfl, ?_⟩
        refine ⟨_, _, _, _, rfl, sm, ?_⟩
        show BestAt _ _ (if _ then _ else _)
        rw [if_pos z0]
        exact hb
      · have e0 : ¬ 12 < f + (2 * f + spread + (1 + (i : Int))) := by omega
        have s2 := same_new (o := .tup [.int (f + (2 * f + spread + (1 + (i : Int)))), .int (if 0 < spread then 2 * f + spread + (1 + (i : Int)) else 1), .int (2 * f + spread + (1 + (i : Int)))]) ht
        refine ⟨_, rfl, rfl, _, rfl, ?_⟩
        refine ⟨_, rfl, _, rfl, _, rfl, _, rfl, _, rfl, t, a, size, mark, 1 + (i : Int), p0, p1, p2, _, _, _, rfl, SqT.of upd_same, seqT (sm.trans s2) hp, hz, hk, by omega, by omega, by split <;> omega, by omega, ?_⟩
        have hb2 := hb.mono s2
        cases hbi : bestI f spread size mark p0 p1 p2 i with
        | none =>
          rw [hbi] at hb2
          subst hb2
          refine ⟨_, rfl, rfl, _, rfl, ?_⟩
          refine ⟨_, rfl, _, rfl, (by show 2 ≤ sizeLine; decide), fun p hp => ?_⟩
          refine ⟨_, _, _, _, rfl, (sm.trans s2).trans (same_new hp), ?_⟩
          show BestAt _ _ (if _ then _ else _)
          rw [if_neg e0, hbi]
          exact ⟨p, rfl, upd_same⟩
        | some b =>
          rw [hbi] at hb2
          obtain ⟨r, rfl, hr2⟩ := hb2
          refine ⟨_, rfl, rfl, _, rfl, ?_⟩
          refine ⟨_, rfl, _, rfl, r, _, 1, _, rfl, rfl, SqT.of hr2, atI_nat (j := 1) rfl, _, _, rfl, rfl, _, rfl, ite_dec (fun hc => ?_) (fun hc => ?_)⟩
          · refine ⟨_, rfl, _, rfl, (by show 2 ≤ sizeLine; decide), fun p hp => ?_⟩
            refine ⟨_, _, _, _, rfl, (sm.trans s2).trans (same_new hp), ?_⟩
            show BestAt _ _ (if _ then _ else _)
            rw [if_neg e0, hbi]
            show BestAt _ _ (if _ then _ else _)
            rw [if_pos (show costI f spread (1 + (i : Int)) size mark p0 p1 p2 < b.2 from hc)]
            exact ⟨p, rfl, upd_same⟩
          · refine ⟨_, _, _, _, rfl, sm.trans s2, ?_⟩
            show BestAt _ _ (if _ then _ else _)
            rw [if_neg e0, hbi]
            show BestAt _ _ (if _ then _ else _)
            rw [if_neg (show ¬ costI f spread (1 + (i : Int)) size mark p0 p1 p2 < b.2 from hc)]
            exact ⟨r, rfl, hr2⟩
    · rintro σ H1 ⟨v, x, y, z, rfl, sm, hb⟩
      refine ⟨_, rfl, _, rfl, _, rfl, _, rfl, _, rfl, f, spread, size, mark, p0, p1, p2, a, rfl, seqT sm hp, hf, hs, hz, hk, fun v2 H2 sm2 hb2 => ?_⟩
      refine ⟨_, rfl, ?_, fun H' sm3 => q H' ((sm.trans sm2).trans sm3)⟩
      have hb' := hb.mono sm2
      cases hbi : bestI f spread size mark p0 p1 p2 6 with
      | none =>
        rw [hbi] at hb2 hb'
        subst hb2
        subst hb'
        exact .inr (.inl rfl)
      | some b =>
        rw [hbi] at hb2 hb'
        obtain ⟨a1, rfl, h1⟩ := hb2
        obtain ⟨a2, rfl, h2⟩ := hb'
        exact .inr (.inr ⟨a1, a2, [b.1, b.2], rfl, SqT.of h1, SqT.of h2, by show 2 ≤ 100; decide⟩)
end
end K55

namespace K55
open PySem PySem.Spec PyProof.Rows L2 Hl
/-- a component by its place -/
def cmp (t : Tr) : Nat → Int
  | 0 => t.1
  | 1 => t.2.1
  | _ => t.2.2
theorem cmp_at (t : Tr) {i : Nat} (h : i < 3) : atI [V.int t.1, V.int t.2.1, V.int t.2.2] (0 + (i : Int)) = some (.int (cmp t i)) := by
  match i, h with
  | 0, _ => rfl
  | 1, _ => rfl
  | 2, _ => rfl
section
variable {P : Program} {w : World} {K : PySem.W.Frag} {mg : Str → Option Value} {base : Heap}
def sp_least_right (K : PySem.W.Frag) : Sp := fun vs H Q _ => ∃ (w q : Addr) (f spread m size mark p0 p1 p2 : Int) (b : Addr), vs = [.ref w, .int f, .int spread, .int m, .int size, .int mark, .ref b] ∧ HeapAt H w q ∧ H b = some (.tup [.int p0, .int p1, .int p2]) ∧
  (0 ≤ f ∧ f ≤ 4) ∧ (0 ≤ spread ∧ spread ≤ 12) ∧ (1 ≤ m ∧ m ≤ 6) ∧ (0 ≤ size ∧ size ≤ 10 ^ 12) ∧ (0 ≤ mark ∧ mark ≤ 10 ^ 12) ∧ 0 ≤ p0 ∧ 0 ≤ p1 ∧ 0 ≤ p2 ∧ ∀ H', Frm w q H H' → HeapAt H' w q → Q (.bl true) H'
theorem ok_least_right {f : Addr} {fd : FuncData} (F : Fun K "_law_least_right" "_law_least_right" s__law_least_right f fd) (T : Txt K mg) (D__law_all_counts : Df P w K mg base 2 "_law_all_counts" ["f", "spread", "m"] sp_all_counts)
    (D_least_counts : Df P w K mg base 1 "least_counts" ["f", "spread", "m"] sp_least_counts) (kb_least_counts : KBinds K D_least_counts.fd ["f", "spread", "m"] ["f", "spread", "m"] gK gK) (D__law_whole : Df P w K mg base 1 "_law_whole" ["value", "top"] sp_whole)
    (D__law_draw : Df P w K mg base 1 "_law_draw" ["heap", "many"] sp_draw) (D_least_numbers : Df P w K mg base 5 "least_numbers" ["f", "spread", "d", "m"] (sp_least_numbers T.C_Numbers)) (kb_least_numbers : KBinds K D_least_numbers.fd ["f", "spread", "d", "m"] ["f", "spread", "d", "m"] gK gK)
    (D_cost_of : Df P w K mg base 2 "cost_of" ["f", "spread", "m", "size", "mark", "prices"] (sp_cost_of K)) (kb_cost_of : KBinds K D_cost_of.fd ["f", "spread", "m", "size", "mark", "prices"] ["f", "spread", "m", "size", "mark", "prices"] gK gK)
    (D__law_same : Df P w K mg base 2 "_law_same" ["value", "due"] (sp_same K)) (D__law_plain_numbers : Df P w K mg base 1 "_law_plain_numbers" ["numbers"] (sp_plain T.C_Numbers)) (D__law_is_safe : Df P w K mg base 1 "_law_is_safe" ["row", "spread"] (sp_is_safe K))
    (D__law_sees : Df P w K mg base 1 "_law_sees" ["row", "spread", "r"] (sp_sees K)) (D__law_cost : Df P w K mg base 2 "_law_cost" ["counts", "size", "mark", "m", "prices"] (sp_cost K)) :
    FnOk P w K mg base CX0 6 f fd ["heap", "f", "spread", "m", "size", "mark", "prices"] (sp_least_right K) := by
  refine F.ok sc__law_least_right (fun vs H Q E h => ?_) (fun cdv A outer s H vs Q E hr h => ?_)
  · obtain ⟨_, _, _, _, _, _, _, _, _, _, _, rfl, _⟩ := h
    rfl
  · obtain ⟨w, q, f, spread, m, size, mark, p0, p1, p2, b, rfl, hh, hb, hf, hs, hm, hz, hk, h0, h1, h2, k⟩ := h
    refine ⟨_, (pss_cons (ps_asg (pe_tup (pa_cons (pe_call D__law_all_counts.ok (hr.mono (by decide)) (by rfl) D__law_all_counts.m D__law_all_counts.kp D__law_all_counts.b .nil pass0 (pa_cons (pv 1) (pa_cons (pv 2) (pa_cons (pv 3) pa_nil)))) (pa_cons (pe_callK0 D_least_counts.ok (hr.mono (by decide)) (by rfl) D_least_counts.m D_least_counts.kp kb_least_counts pass0 (pk_cons (pv 1) (pk_cons (pv 2) (pk_cons (pv 3) pk_nil)))) pa_nil))) (pg_tup rfl (pgs_cons (pg_name (i := 7) sc__law_least_right.nd rfl (by first | exact Or.inl rfl | exact Or.inr rfl)) (pgs_cons (pg_name (i := 8) sc__law_least_right.nd rfl (by first | exact Or.inl rfl | exact Or.inr rfl)) pgs_nil))))
  (pss_cons (ps_if (PW.pt (pw_or (pt_not (pt_val (pe_callB call_isiS (by rfl) T.isinstance (by decide +kernel) (pa_cons (pv 8) (pa_cons (pe_ty "tuple" (by rfl) T.tuple) pa_nil))))) (pw_or (pt_cmpR op_ne (pe_callB call_len_seq (by rfl) T.len PySem.boot_len (pa_cons (pv 8) pa_nil)) pe_int (nomark _)) (pw_or1 (pt_cmpR (op_neD hr.units) (pe_lc (own := [("one", 15)]) (by rfl) sc__law_least_right.nd (pi_tup (pv 8)) (blkOk_by (own := [("one", 15)]) (N := N__law_least_right) (sc := defScope s__law_least_right) (by decide +kernel)) (fun _ _ _ _ _ => (pg_name (i := 15) sc__law_least_right.nd rfl (by first | exact Or.inl rfl | exact Or.inr rfl))) (fun _ _ _ _ _ => (pts_one (pt_not (pt_val (pe_call D__law_whole.ok (hr.mono (by decide)) (by rfl) D__law_whole.m D__law_whole.kp D__law_whole.b .nil pass0 (pa_cons (pv 15) (pa_cons pe_int pa_nil))))))) (fun _ _ _ _ _ => (pv 15))) (pe_lst pa_nil) (nomark _))))))
  (pss_one (ps_ret pe_bl))
  pss_nil)
  (pss_cons (ps_set (i := 9) sc__law_least_right.nd rfl (by first | exact Or.inl rfl | exact Or.inr rfl) (pe_op op_add pe_int (pe_call D__law_draw.ok (hr.mono (by decide)) (by rfl) D__law_draw.m D__law_draw.kp D__law_draw.b .nil pass0 (pa_cons (pv 0) (pa_cons pe_int pa_nil)))))
  (pss_cons (ps_set (i := 10) sc__law_least_right.nd rfl (by first | exact Or.inl rfl | exact Or.inr rfl) (pe_callK0 D_least_numbers.ok (hr.mono (by decide)) (by rfl) D_least_numbers.m D_least_numbers.kp kb_least_numbers pass0 (pk_cons (pv 1) (pk_cons (pv 2) (pk_cons (pv 9) (pk_cons (pv 3) pk_nil))))))
  (pss_cons (ps_set (i := 11) sc__law_least_right.nd rfl (by first | exact Or.inl rfl | exact Or.inr rfl) (pe_callK0 D_cost_of.ok (hr.mono (by decide)) (by rfl) D_cost_of.m D_cost_of.kp kb_cost_of pass0 (pk_cons (pv 1) (pk_cons (pv 2) (pk_cons (pv 3) (pk_cons (pv 4) (pk_cons (pv 5) (pk_cons (pv 6) pk_nil))))))))
  (pss_cons (ps_if (pt_cmpR (op_eqD hr.units) (pv 7) (pe_lst pa_nil) (nomark _))
  (pss_one (ps_ret (pe_and (pe_cmpR op_gt (pe_ix ix_tup (pv 8) pe_int (fun _ _ => rfl)) pe_int (nomark _)) (pe_and (pe_cmpR op_isN (pv 10) pe_non (nomark _)) (pe_one (pe_cmpR op_isN (pv 11) pe_non (nomark _)))))))
  pss_nil)
  (pss_cons (ps_set (i := 12) sc__law_least_right.nd rfl (by first | exact Or.inl rfl | exact Or.inr rfl) (pe_callTy call_tuple_of (by rfl) T.tuple (by decide +kernel) (pa_cons (pe_lc (own := [("at", 16)]) (by rfl) sc__law_least_right.nd (pi_range1 (by rfl) T.range (pa_cons pe_int pa_nil)) (blkOk_by (own := [("at", 16)]) (N := N__law_least_right) (sc := defScope s__law_least_right) (by decide +kernel)) (fun _ _ _ _ _ => (pg_name (i := 16) sc__law_least_right.nd rfl (by first | exact Or.inl rfl | exact Or.inr rfl))) (fun _ _ _ _ _ => pts_nil) (fun _ _ _ _ _ => (pe_callB (kcr_min (K := K) rfl rfl) (by rfl) T.min (by decide +kernel) (pa_cons (pe_lc (own := [("one", 15)]) (by rfl) sc__law_least_right.nd (kpi_list (K := K) rfl (pv 7)) (blkOk_by (own := [("one", 15)]) (by kernel_rfl)) (fun _ _ _ _ _ => (pg_name (i := 15) sc__law_least_right.nd rfl (by first | exact Or.inl rfl | exact Or.inr rfl))) (fun _ _ _ _ _ => pts_nil) (fun _ _ _ _ _ => (pe_ix (kix_tup (K := K) rfl) (pv 15) (pv 16) (fun _ _ => rfl)))) pa_nil)))) pa_nil)))
  (pss_cons (ps_if (PW.pt (pw_or (pt_not (pt_val (pe_call D__law_same.ok (hr.mono (by decide)) (by rfl) D__law_same.m D__law_same.kp D__law_same.b .nil pass0 (pa_cons (pv 8) (pa_cons (pv 12) pa_nil))))) (pw_or (pt_cmpR (op_notInD (room65 hr)) (pv 12) (pv 7) (by rfl)) (pw_or1 (pt_not (pt_val (pe_callB call_isiS (by rfl) T.isinstance (by decide +kernel) (pa_cons (pv 10) (pa_cons (pe_glob (v := .ref T.C_Numbers) (by rfl) T.m_Numbers rfl) pa_nil)))))))))
  (pss_one (ps_ret pe_bl))
  pss_nil)
  (pss_cons (ps_set (i := 13) sc__law_least_right.nd rfl (by first | exact Or.inl rfl | exact Or.inr rfl) (pe_tup (pa_cons (pe_ix ix_tup (pv 12) pe_int (fun _ _ => rfl)) (pa_cons (pv 1) (pa_cons (pv 9) (pa_cons (pv 3) (pa_cons (pe_op op_sub (pe_ix ix_tup (pv 12) pe_int (fun _ _ => rfl)) (pv 1)) (pa_cons (pe_op op_sub (pe_ix ix_tup (pv 12) pe_int (fun _ _ => rfl)) (pv 1)) (pa_cons (pe_ix ix_tup (pv 12) pe_int (fun _ _ => rfl)) pa_nil)))))))))
  (pss_cons (ps_if (PW.pt (pw_or (pt_not (pt_val (pe_call D__law_same.ok (hr.mono (by decide)) (by rfl) D__law_same.m D__law_same.kp D__law_same.b .nil pass0 (pa_cons (pe_call D__law_plain_numbers.ok (hr.mono (by decide)) (by rfl) D__law_plain_numbers.m D__law_plain_numbers.kp D__law_plain_numbers.b .nil pass0 (pa_cons (pv 10) pa_nil)) (pa_cons (pv 13) pa_nil))))) (pw_or (pt_not (pt_val (pe_call D__law_is_safe.ok (hr.mono (by decide)) (by rfl) D__law_is_safe.m D__law_is_safe.kp D__law_is_safe.b .nil pass0 (pa_cons (pv 13) (pa_cons (pv 2) pa_nil))))) (pw_or1 (pt_not (pt_val (pe_ix ix_tup (pe_call D__law_sees.ok (hr.mono (by decide)) (by rfl) D__law_sees.m D__law_sees.kp D__law_sees.b .nil pass0 (pa_cons (pv 13) (pa_cons (pv 2) (pa_cons (pe_ix ix_tup (pv 12) pe_int (fun _ _ => rfl)) pa_nil)))) pe_int (fun _ _ => rfl))))))))
  (pss_one (ps_ret pe_bl))
  pss_nil)
  (pss_cons (ps_setLc (i := 14) (own := [("one", 15)]) (by rfl) sc__law_least_right.nd rfl rfl (sw_true rfl rfl rfl (by decide +kernel)) (pi_list (pv 7)) (blkOk_by (own := [("one", 15)]) (N := N__law_least_right) (sc := defScope s__law_least_right) (by decide +kernel)) (fun _ _ _ _ _ => (pg_name (i := 15) sc__law_least_right.nd rfl (by first | exact Or.inl rfl | exact Or.inr rfl))) (fun _ _ _ _ _ => pts_nil) (fun _ _ _ _ _ => (pe_call D__law_cost.ok (hr.mono (by decide)) (by rfl) D__law_cost.m D__law_cost.kp D__law_cost.b .nil pass0 (pa_cons (pv 15) (pa_cons (pv 4) (pa_cons (pv 5) (pa_cons (pv 3) (pa_cons (pv 6) pa_nil))))))))
  (pss_one (ps_ret (pe_and (pe_call D__law_same.ok (hr.mono (by decide)) (by rfl) D__law_same.m D__law_same.kp D__law_same.b .nil pass0 (pa_cons (pv 11) (pa_cons (pe_callB (cr_min rfl) (by rfl) T.min (by decide +kernel) (pa_cons (pv 14) pa_nil)) pa_nil))) (pe_one (pe_call D__law_same.ok (hr.mono (by decide)) (by rfl) D__law_same.m D__law_same.kp D__law_same.b .nil pass0 (pa_cons (pv 11) (pa_cons (pe_call D__law_cost.ok (hr.mono (by decide)) (by rfl) D__law_cost.m D__law_cost.kp D__law_cost.b .nil pass0 (pa_cons (pv 12) (pa_cons (pv 4) (pa_cons (pv 5) (pa_cons (pv 3) (pa_cons (pv 6) pa_nil)))))) pa_nil)))))))))))))))))), ?_⟩
    -- found, due
    refine ⟨_, rfl, _, rfl, _, rfl, f, spread, m, rfl, hf, hs, hm, fun p H1 L sm1 hpn hF hlen hgood hin => ?_⟩
    refine ⟨_, rfl, _, rfl, _, rfl, f, spread, m, rfl, fun du hdu => ?_⟩
    have s2 := same_new (o := .tup [.int (f + (2 * f + spread + m)), .int (if 0 < spread then 2 * f + spread + m else 1), .int (2 * f + spread + m)]) hdu
    refine ⟨(by show 2 ≤ sizeLine; decide), fun t ht => ?_⟩
    have s3 := same_new (o := .tup [.ref p, .ref du]) ht
    refine ⟨t, _, rfl, SqT.of upd_same, rfl, _, _, rfl, _, [], rfl, rfl, ?_⟩
    have hdu3 := s3 _ _ (upd_same (H := H1) (a := du) (o := .tup [.int (f + (2 * f + spread + m)), .int (if 0 < spread then 2 * f + spread + m else 1), .int (2 * f + spread + m)]))
    have sm3 := (sm1.trans s2).trans s3
    have hF3 := (hF.mono s2).mono s3
    generalize upd (upd H1 du (.tup [.int (f + (2 * f + spread + m)), .int (if 0 < spread then 2 * f + spread + m else 1), .int (2 * f + spread + m)])) t (.tup [.ref p, .ref du]) = H3 at s3 hdu3 sm3 hF3 ⊢
    clear s2 s3 sm1 hdu ht hF
    have hh3 := hh.same sm3
    -- is due a tuple of three numbers
    refine ⟨_, rfl, isi_of (ty_tup (SqT.of hdu3)) (b := true) (by decide +kernel) ⟨_, rfl, iteF ?_⟩⟩
    refine ⟨_, rfl, du, _, rfl, .inr (SqT.of hdu3), rfl, _, rfl, iteNS rfl ?_⟩
    refine ⟨_, rfl, du, rfl, ⟨_, SqT.of hdu3⟩, fun D hD => ?_⟩
    refine lc_same (α := Unit) (walk_tup (xs := [.int (f + (2 * f + spread + m)), .int (if 0 < spread then 2 * f + spread + m else 1), .int (2 * f + spread + m)])) (by show 3 ≤ 100000; decide) hD (fun _ _ _ => True) (fun _ _ _ _ _ _ h => h) (fun _ _ _ _ _ h => h) (fun i l => l = []) rfl (fun H2 sm => SqT.of (sm _ _ hdu3)) ?_ ?_
    · rintro i x H4 H5 l hi sm - rfl ⟨rfl, hx⟩ A B hA hB
      obtain ⟨n, rfl, hn0, hn1⟩ : ∃ n : Int, x = .int n ∧ 0 ≤ n ∧ n < 99 := by
        match i, hi, hx with
        | 0, _, e => exact ⟨_, (Option.some.inj e).symm, by omega, by omega⟩
        | 1, _, e => exact ⟨_, (Option.some.inj e).symm, by split <;> omega, by split <;> omega⟩
        | 2, _, e => exact ⟨_, (Option.some.inj e).symm, by omega, by omega⟩
      exact ⟨rfl, _, rfl, n, 99, rfl, hn0, hn1, _, rfl, iteF (hB _ (Same.refl _) rfl)⟩
    rintro H4 us l sm4 hD4 hE4 rfl
    cases hE4
    refine ⟨Nat.zero_le _, fun e0 he0 => ?_⟩
    have s5 := same_new (o := .lst []) he0
    refine ⟨.list [], .list [], .lst (SqL.of (s5 _ _ hD4)) .nil, .lst (SqL.of upd_same) .nil, rfl, rfl, _, rfl, iteF ?_⟩
    have sm5 := sm4.trans s5
    have hh5 := hh3.same sm5
    have hF5 := hF3.mono sm5
    have hdu5 := sm5 _ _ hdu3
    have sm05 := sm3.trans sm5
    generalize upd H4 e0 (.lst []) = H5 at s5 sm5 hh5 hF5 hdu5 sm05 ⊢
    clear s5 sm5 sm4 he0 hD4 hD hdu3 hF3 hh3 sm3
    have hb5 := sm05 _ _ hb
    -- d = 1 + draw
    refine ⟨_, rfl, w, q, 200, rfl, hh5, by decide, by decide, fun r H6 r0 r1 fr6 hh6 => ⟨_, _, rfl, rfl, ?_⟩⟩
    obtain ⟨cs, st, hw0, hq0, _⟩ := id hh
    have npw : p ≠ w := (ne_of_none hw0 hpn).symm
    have npq : p ≠ q := (ne_of_none hq0 hpn).symm
    have hF6 := hF5.frm fr6 hh5 npw npq
    obtain ⟨cs5, st5, hw5, hq5, _⟩ := id hh5
    have hdu6 := fr6 _ _ (ne_of hdu5 hw5 (by intro z; cases z)) (ne_of hdu5 hq5 (by intro z; cases z)) hdu5
    have hb6 := fr6 _ _ (ne_of hb5 hw5 (by intro z; cases z)) (ne_of hb5 hq5 (by intro z; cases z)) hb5
    have fr06 : Frm w q H H6 := (Frm.same sm05).trans fr6
    -- numbers, cost: too great or not
    by_cases big : 12 < f + (2 * f + spread + m)
    · refine ⟨_, rfl, _, rfl, _, rfl, _, rfl, f, spread, _, m, rfl, hf.1, hs.1, hm.1, hm.2, by omega, by omega, fun z => by omega, fun _ H7 sm7 => ?_⟩
      refine ⟨_, rfl, _, rfl, _, rfl, _, rfl, _, rfl, _, rfl, f, spread, m, size, mark, p0, p1, p2, b, rfl, SqT.of (sm7 _ _ hb6), hf, hs, hm, hz, hk, fun z => by omega, fun _ H8 sm8 => ?_⟩
      have hL : L = [] := by
        cases hL : L with
        | nil => rfl
        | cons t r =>
          have := good_ge hf.1 hs.1 hm.1 (hgood t (by rw [hL]; exact List.mem_cons_self))
          have e : (t0 f spread m).1 = f + (2 * f + spread + m) := rfl
          omega
      subst hL
      have s78 := sm7.trans sm8
      refine ⟨_, rfl, Nat.zero_le _, fun e1 he1 => ?_⟩
      have s9 := same_new (o := .lst []) he1
      have s69 := s78.trans s9
      refine ⟨.list [], .list [], (hF6.mono s69).dp, .lst (SqL.of upd_same) .nil, rfl, rfl, _, rfl, iteT ?_⟩
      refine ⟨_, rfl, du, _, 0, _, rfl, rfl, SqT.of (s69 _ _ hdu6), atI_nat (j := 0) rfl, _, _, rfl, rfl, _, rfl, ite_dec (fun _ => ?_) (fun z => (z big).elim)⟩
      refine ⟨_, rfl, rfl, _, rfl, iteT ?_⟩
      refine ⟨_, rfl, rfl, ?_⟩
      exact k _ (fr06.trans (Frm.same s69)) (hh6.same s69)
    · have small : f + (2 * f + spread + m) ≤ 12 := by omega
      refine ⟨_, rfl, _, rfl, _, rfl, _, rfl, f, spread, _, m, rfl, hf.1, hs.1, hm.1, hm.2, by omega, by omega, fun _ nu H7 sm7 hnu hnum => ?_, fun z => by omega⟩
      refine ⟨_, rfl, _, rfl, _, rfl, _, rfl, _, rfl, _, rfl, f, spread, m, size, mark, p0, p1, p2, b, rfl, SqT.of (sm7 _ _ hb6), hf, hs, hm, hz, hk, fun _ H8 sm8 => ?_, fun z => by omega⟩
      have ht0 := hin small
      have hLne : L ≠ [] := fun e => by rw [e] at ht0; cases ht0
      have s78 := sm7.trans sm8
      refine ⟨_, rfl, Nat.zero_le _, fun e1 he1 => ?_⟩
      have s9 := same_new (o := .lst []) he1
      have s69 := s78.trans s9
      have hF9 := hF6.mono s69
      have eqf : PyData.eqv (.list (L.map trD)) (.list []) = false := by
        cases L with
        | nil => exact absurd rfl hLne
        | cons t r => rfl
      refine ⟨.list (L.map trD), .list [], hF9.dp, .lst (SqL.of upd_same) .nil, trs_shaped L, rfl, _, rfl, ?_⟩
      rw [eqf]
      refine iteF ?_
      have hdu9 := s69 _ _ hdu6
      have hb9 := s69 _ _ hb6
      have hh9 := hh6.same s69
      have fr09 : Frm w q H (upd H8 e1 (.lst [])) := fr06.trans (Frm.same s69)
      obtain ⟨dx, hnu7⟩ := hnum
      have hnu9 := (sm8.trans s9) _ _ hnu7
      generalize upd H8 e1 (.lst []) = H9 at s9 s69 hF9 hdu9 hb9 hh9 fr09 hnu9 ⊢
      clear s9 s69 s78 sm8 sm7 hnu7 he1 hdu6 hb6 hF6 fr06 hh6
      -- least
      refine ⟨3, rfl, by decide, by decide, fun D2 hD2 => ?_⟩
      refine lc_same (walk_range (lo := 0) (n := (3 : Int).toNat)) (by decide) hD2 ErI (fun _ _ _ _ _ _ h => h) (fun _ _ _ _ _ h => h) (fun i l => l = [(t0 f spread m).1, (t0 f spread m).2.1, (t0 f spread m).2.2].take i) rfl (fun _ _ => trivial) ?_ ?_
      · rintro i x H10 H11 l hi sm10 - rfl ⟨rfl, rfl⟩ A B hA hB
        have hi3 : i < 3 := hi
        refine ⟨rfl, t_yes ?_⟩
        have hF10 := hF9.mono sm10
        obtain ⟨vs, hv1, hv2⟩ := hF10
        refine ⟨_, rfl, p, rfl, ⟨_, SqL.of hv1⟩, fun D3 hD3 => ?_⟩
        have hvl := hv2.len
        refine lc_same (walk_list (xs := vs)) (by omega) hD3 ErI (fun _ _ _ _ _ _ h => h) (fun _ _ _ _ _ h => h) (fun j l => l = (L.take j).map fun t => cmp t i) rfl (fun H12 sm12 => SqL.of (sm12 _ _ hv1)) ?_ ?_
        · rintro j y H12 H13 l hj sm12 - rfl ⟨rfl, hy⟩ A B hA hB
          obtain ⟨t, ht, a, rfl, ha⟩ := hv2.get hy
          refine ⟨rfl, t_yes ?_⟩
          refine ⟨_, rfl, _, rfl, a, _, _, _, rfl, rfl, SqT.of (sm12 _ _ ha), cmp_at t hi3, ?_⟩
          refine hA _ _ _ (Same.refl _) rfl ?_
          rw [List.take_add_one, ht, List.map_append]
          rfl
        · rintro H12 us l sm12 hD12 hE12 rfl
          have e12 := hE12.ints
          subst e12
          refine ⟨D3, _, rfl, SqL.of hD12, ?_, fun mi hmi hle => ?_⟩
          · rw [List.length_map, hvl, List.take_length]
            exact List.length_pos_iff.mpr hLne
          · rw [hvl, List.take_length] at hmi hle
            have emi : mi = cmp (t0 f spread m) i := by
              obtain ⟨t, ht, rfl⟩ := List.mem_map.mp hmi
              have a1 := hle _ (List.mem_map.mpr ⟨_, ht0, rfl⟩)
              have a2 := good_ge hf.1 hs.1 hm.1 (hgood t ht)
              match i, hi3 with
              | 0, _ => exact Int.le_antisymm a1 a2.1
              | 1, _ => exact Int.le_antisymm a1 a2.2.1
              | 2, _ => exact Int.le_antisymm a1 a2.2.2.1
            subst emi
            refine hA _ _ _ sm12 rfl ?_
            match i, hi3 with
            | 0, _ => rfl
            | 1, _ => rfl
            | 2, _ => rfl
      rintro H10 us l sm10 hD10 hE10 rfl
      have e10 := hE10.ints
      subst e10
      have hD10' : H10 D2 = some (.lst [.int (t0 f spread m).1, .int (t0 f spread m).2.1, .int (t0 f spread m).2.2]) := hD10
      refine ⟨D2, _, rfl, .inl ⟨SqL.of hD10', fun le hle => ?_⟩⟩
      have s11 := same_new (o := .tup [.int (t0 f spread m).1, .int (t0 f spread m).2.1, .int (t0 f spread m).2.2]) hle
      have sm11 := sm10.trans s11
      have hF11 := hF9.mono sm11
      have hdu11 := sm11 _ _ hdu9
      have hb11 := sm11 _ _ hb9
      have hh11 := hh9.same sm11
      have fr11 := fr09.trans (Frm.same sm11)
      have hnu11 := sm11 _ _ hnu9
      have hle11 : upd H10 le (.tup [.int (t0 f spread m).1, .int (t0 f spread m).2.1, .int (t0 f spread m).2.2]) le = some (.tup [.int (t0 f spread m).1, .int (t0 f spread m).2.1, .int (t0 f spread m).2.2]) := upd_same
      generalize upd H10 le (.tup [.int (t0 f spread m).1, .int (t0 f spread m).2.1, .int (t0 f spread m).2.2]) = H11 at s11 sm11 hF11 hdu11 hb11 hh11 fr11 hnu11 hle11 ⊢
      clear s11 sm11 hle hD10 hD10' hE10 sm10 hD2 hnu9 fr09 hh9 hb9 hdu9 hF9
      refine ⟨_, rfl, _, rfl, .inr (.inr ⟨du, le, [(t0 f spread m).1, (t0 f spread m).2.1, (t0 f spread m).2.2], rfl, SqT.of hdu11, SqT.of hle11, by show 3 ≤ 100; decide⟩), fun H12 s12 => ⟨_, rfl, iteF ?_⟩⟩
      have hle12 := s12 _ _ hle11
      have hF12 := hF11.mono s12
      have hnu12 := s12 _ _ hnu11
      have anyt : ((L.map trD).any fun z => PyData.eqv z (trD (t0 f spread m))) = true :=
        List.any_eq_true.mpr ⟨_, List.mem_map.mpr ⟨_, ht0, rfl⟩, SeqAt.eqv_refl _ (tr_lay _)⟩
      refine ⟨_, rfl, _, rfl, trD (t0 f spread m), L.map trD, .tup (SqT.of hle12) (.cons (.int _) (.cons (.int _) (.cons (.int _) .nil))), hF12.dp, tr_shaped _, trs_shaped L, _, rfl, ?_⟩
      rw [anyt]
      refine iteF ?_
      refine ⟨_, rfl, ⟨⟨_, _, _, _, _, rfl, .own _, .base (.ins hnu12 T.cl T.i1 T.i2 T.i3 T.i4), T.i5, ⟨_, rfl, iteF ?_⟩⟩⟩⟩
      -- the row
      refine ⟨_, rfl, le, _, 0, _, rfl, rfl, SqT.of hle12, atI_nat (j := 0) rfl, _, rfl, _, rfl, _, rfl, ?_⟩
      refine ⟨_, rfl, le, _, 0, _, rfl, rfl, SqT.of hle12, atI_nat (j := 0) rfl, _, rfl, _, _, rfl, rfl, ?_⟩
      refine ⟨_, rfl, le, _, 0, _, rfl, rfl, SqT.of hle12, atI_nat (j := 0) rfl, _, rfl, _, _, rfl, rfl, ?_⟩
      refine ⟨_, rfl, le, _, 1, _, rfl, rfl, SqT.of hle12, atI_nat (j := 1) rfl, (by show 7 ≤ sizeLine; decide), fun ro hro => ?_⟩
      have ekf : (t0 f spread m).1 - f = 2 * f + spread + m := by
        show f + (2 * f + spread + m) - f = _
        omega
      have hro13 : upd H12 ro (.tup [.int (t0 f spread m).1, .int f, .int (1 + r), .int m, .int ((t0 f spread m).1 - f), .int ((t0 f spread m).1 - f), .int (t0 f spread m).2.1]) ro = some (.tup (row7 (t0 f spread m).1 f (1 + r) m (2 * f + spread + m) (2 * f + spread + m) (t0 f spread m).2.1)) := by
        rw [upd_same, ekf]
        rfl
      have s13 := same_new (o := .tup [.int (t0 f spread m).1, .int f, .int (1 + r), .int m, .int ((t0 f spread m).1 - f), .int ((t0 f spread m).1 - f), .int (t0 f spread m).2.1]) hro
      have hnu13 := s13 _ _ hnu12
      have s113 := s12.trans s13
      have hle13 := s13 _ _ hle12
      generalize upd H12 ro (.tup [.int (t0 f spread m).1, .int f, .int (1 + r), .int m, .int ((t0 f spread m).1 - f), .int ((t0 f spread m).1 - f), .int (t0 f spread m).2.1]) = H13 at hro13 s13 hnu13 s113 hle13 ⊢
      clear hro s13 hnu12 hle12 hF12 s12
      refine ⟨_, rfl, nu, _, _, _, _, _, _, _, rfl, ⟨dx, hnu13⟩, fun pl hpl => ?_⟩
      have s14 := same_new (o := .tup (row7 (t0 f spread m).1 f (1 + r) m (2 * f + spread + m) (2 * f + spread + m) (t0 f spread m).2.1)) hpl
      refine ⟨_, rfl, .inr (.inr ⟨pl, ro, [(t0 f spread m).1, f, 1 + r, m, 2 * f + spread + m, 2 * f + spread + m, (t0 f spread m).2.1], rfl, SqT.of upd_same, SqT.of (s14 _ _ hro13), by show 7 ≤ 100; decide⟩), fun H15 s15 => ⟨_, rfl, iteF ?_⟩⟩
      have s1315 := s14.trans s15
      have hro15 := s1315 _ _ hro13
      have hle15 := s1315 _ _ hle13
      have s1115 := s113.trans s1315
      clear s15 s14 hpl s1315 s113 hnu13 hle13 hro13
      refine ⟨_, rfl, _, rfl, ro, _, _, _, _, _, _, _, spread, rfl, SqT.of hro15, ?_⟩
      rw [show safeB (t0 f spread m).1 f m (2 * f + spread + m) (2 * f + spread + m) (t0 f spread m).2.1 spread = true from safe_t0 hf.1 hs.1 hm.1]
      refine ⟨_, rfl, iteF ?_⟩
      refine ⟨_, rfl, _, rfl, _, rfl, le, _, 2, _, rfl, rfl, SqT.of hle15, atI_nat (j := 2) rfl, ro, _, _, _, _, _, _, _, spread, _, rfl, SqT.of hro15, fun se hse => ?_⟩
      refine ⟨se, _, 1, _, rfl, rfl, SqT.of upd_same, atI_nat (j := 1) rfl, ?_⟩
      rw [show farB (t0 f spread m).1 f m (2 * f + spread + m) (t0 f spread m).2.1 spread (t0 f spread m).2.2 = true from far_t0 hf.1 hs.1 hm.1]
      refine ⟨_, rfl, iteF ?_⟩
      have s1116 := s1115.trans (same_new (o := .tup [.bl (nearB (t0 f spread m).1 f m (2 * f + spread + m) spread (t0 f spread m).2.2), .bl true]) hse)
      generalize upd H15 se (.tup [.bl (nearB (t0 f spread m).1 f m (2 * f + spread + m) spread (t0 f spread m).2.2), .bl true]) = H16 at s1116 ⊢
      have hF16 := hF11.mono s1116
      have hle16 := s1116 _ _ hle11
      have hb16 := s1116 _ _ hb11
      have hh16 := hh11.same s1116
      have fr16 := fr11.trans (Frm.same s1116)
      clear hse hro15 hle15 s1115 s1116
      -- costs
      obtain ⟨vs, hv1, hv2⟩ := id hF16
      have hvl := hv2.len
      refine ⟨_, rfl, p, rfl, ⟨_, SqL.of hv1⟩, fun D4 hD4 => ?_⟩
      refine lc_same (walk_list (xs := vs)) (by omega) hD4 ErI (fun _ _ _ _ _ _ h => h) (fun _ _ _ _ _ h => h) (fun j l => l = (L.take j).map fun t => costL size mark m p0 p1 p2 t) rfl (fun H12 sm12 => SqL.of (sm12 _ _ hv1)) ?_ ?_
      · rintro j y H17 H18 l hj sm17 - rfl ⟨rfl, hy⟩ A B hA hB
        obtain ⟨t, ht, a, rfl, ha⟩ := hv2.get hy
        have hg := good_ge hf.1 hs.1 hm.1 (hgood t (List.mem_of_getElem? ht))
        have g1 : 0 ≤ (t0 f spread m).1 ∧ 0 ≤ (t0 f spread m).2.1 ∧ 0 ≤ (t0 f spread m).2.2 := by
          refine ⟨?_, ?_, ?_⟩
          · show 0 ≤ f + (2 * f + spread + m)
            omega
          · show 0 ≤ if 0 < spread then 2 * f + spread + m else 1
            split <;> omega
          · show 0 ≤ 2 * f + spread + m
            omega
        refine ⟨rfl, t_yes ?_⟩
        refine ⟨_, rfl, _, rfl, _, rfl, _, rfl, _, rfl, a, b, size, mark, m, p0, p1, p2, _, _, _, rfl, SqT.of (sm17 _ _ ha), SqT.of (sm17 _ _ hb16), hz, hk, hm, by omega, by omega, by omega, ?_⟩
        refine hA _ _ _ (Same.refl _) rfl ?_
        rw [List.take_add_one, ht, List.map_append]
        rfl
      · rintro H17 us l sm17 hD17 hE17 rfl
        have e17 := hE17.ints
        subst e17
        rw [hvl, List.take_length] at hD17
        have hle17 := sm17 _ _ hle16
        have hb17 := sm17 _ _ hb16
        refine ⟨_, rfl, _, rfl, D4, _, rfl, SqL.of hD17, ?_, fun mi hmi hmin => ?_⟩
        · rw [List.length_map]
          exact List.length_pos_iff.mpr hLne
        · have emi : mi = costI f spread m size mark p0 p1 p2 := by
            obtain ⟨t, ht, rfl⟩ := List.mem_map.mp hmi
            have a1 := hmin _ (List.mem_map.mpr ⟨_, ht0, rfl⟩)
            have a2 := good_ge hf.1 hs.1 hm.1 (hgood t ht)
            exact Int.le_antisymm a1 (cost_le hz hk hm h0 h1 h2 ⟨a2.1, a2.2.1, a2.2.2.1⟩)
          subst emi
          refine ⟨.inl ⟨_, rfl⟩, fun H18 s18 => ⟨_, rfl, iteT ?_⟩⟩
          refine ⟨_, rfl, _, rfl, _, rfl, _, rfl, _, rfl, _, rfl, le, b, size, mark, m, p0, p1, p2, _, _, _, rfl, SqT.of (s18 _ _ hle17), SqT.of (s18 _ _ hb17), hz, hk, hm, ?_, ?_, ?_, ?_⟩
          · show 0 ≤ f + (2 * f + spread + m) ∧ f + (2 * f + spread + m) ≤ 100
            omega
          · show 0 ≤ (if 0 < spread then 2 * f + spread + m else 1) ∧ (if 0 < spread then 2 * f + spread + m else 1) ≤ 100
            split <;> omega
          · show 0 ≤ 2 * f + spread + m ∧ 2 * f + spread + m ≤ 100
            omega
          · refine ⟨.inl ⟨costI f spread m size mark p0 p1 p2, rfl⟩, fun H19 s19 => ?_⟩
            have sz := (sm17.trans s18).trans s19
            exact k _ (fr16.trans (Frm.same sz)) (hh16.same sz)
end
end K55

namespace K55
open PySem PySem.Spec PyProof.Rows L2 Hl
theorem kit_self {K : PySem.W.Frag} (C : Addr) : PySem.W.kitOne K (.ref C) (.ref C) = some true := by
  unfold PySem.W.kitOne
  rw [if_pos (by simp)]
theorem HeapAt.ne {H : Hp} {w q s : Addr} (h : HeapAt H w q) (hs : H s = none) : s ≠ w ∧ s ≠ q := by
  obtain ⟨cs, st, hw, hq, _⟩ := h
  exact ⟨(ne_of_none hw hs).symm, (ne_of_none hq hs).symm⟩
section
variable {P : Program} {w : World} {K : PySem.W.Frag} {mg : Str → Option Value} {base : Heap}
def sp_law (K : PySem.W.Frag) : Sp := fun vs H Q _ => ∃ (a : Addr) (ns : List Int), vs = [.ref a] ∧ SqL K H a (ns.map V.int) ∧ ns.length ≤ 63 ∧ ∀ H', Q (.bl true) H'
theorem ok_law {f : Addr} {fd : FuncData} (F : Fun K "law" "law" s_law f fd) (T : Txt K mg) (D__law_heap : Df P w K mg base 1 "_law_heap" ["script"] (sp_heap K)) (D__law_pick : Df P w K mg base 2 "_law_pick" ["heap", "some"] sp_pick) (D__law_draw : Df P w K mg base 1 "_law_draw" ["heap", "many"] sp_draw)
    (D__law_a_size : Df P w K mg base 3 "_law_a_size" ["heap"] sp_a_size) (D__law_same : Df P w K mg base 2 "_law_same" ["value", "due"] (sp_same K)) (D_token_size : Df P w K mg base 1 "token_size" ["size", "mark", "m"] sp_token_size) (kb_token_size : KBinds K D_token_size.fd ["size", "mark", "m"] ["size", "mark", "m"] gK gK)
    (D__law_token : Df P w K mg base 1 "_law_token" ["size", "mark", "m"] sp_token) (D__law_least_right : Df P w K mg base 6 "_law_least_right" ["heap", "f", "spread", "m", "size", "mark", "prices"] (sp_least_right K))
    (D__law_best_right : Df P w K mg base 4 "_law_best_right" ["f", "spread", "size", "mark", "prices"] (sp_best_right K)) : FnOk P w K mg base CX0 7 f fd ["script"] (sp_law K) := by
  refine F.ok sc_law (fun vs H Q E h => ?_) (fun cdv A outer s H vs Q E hr h => ?_)
  · obtain ⟨_, _, rfl, _⟩ := h
    rfl
  · obtain ⟨a, ns, rfl, hS, hl, k⟩ := h
    refine ⟨_, (pss_cons (ps_set (i := 1) sc_law.nd rfl (by first | exact Or.inl rfl | exact Or.inr rfl) (pe_call D__law_heap.ok (hr.mono (by decide)) (by rfl) D__law_heap.m D__law_heap.kp D__law_heap.b .nil pass0 (pa_cons (pv 0) pa_nil)))
  (pss_cons (ps_par3 (i := 2) (j := 3) (l := 4) rfl sc_law.nd rfl rfl rfl (by decide) (by decide) (by decide) rfl rfl rfl (pa_cons (pe_call D__law_pick.ok (hr.mono (by decide)) (by rfl) D__law_pick.m D__law_pick.kp D__law_pick.b .nil pass0 (pa_cons (pv 1) (pa_cons (pe_lst (pa_cons pe_int (pa_cons pe_int (pa_cons pe_int (pa_cons pe_int (pa_cons pe_int (pa_cons pe_int (pa_cons pe_int pa_nil)))))))) pa_nil))) (pa_cons (pe_call D__law_pick.ok (hr.mono (by decide)) (by rfl) D__law_pick.m D__law_pick.kp D__law_pick.b .nil pass0 (pa_cons (pv 1) (pa_cons (pe_lst (pa_cons pe_int (pa_cons pe_int (pa_cons pe_int (pa_cons pe_int (pa_cons pe_int (pa_cons (pe_call D__law_draw.ok (hr.mono (by decide)) (by rfl) D__law_draw.m D__law_draw.kp D__law_draw.b .nil pass0 (pa_cons (pv 1) (pa_cons pe_int pa_nil))) pa_nil))))))) pa_nil))) (pa_cons (pe_op op_add pe_int (pe_call D__law_draw.ok (hr.mono (by decide)) (by rfl) D__law_draw.m D__law_draw.kp D__law_draw.b .nil pass0 (pa_cons (pv 1) (pa_cons pe_int pa_nil)))) pa_nil))) (by rfl))
  (pss_cons (ps_set (i := 5) sc_law.nd rfl (by first | exact Or.inl rfl | exact Or.inr rfl) (pe_tup (pa_cons (pe_call D__law_a_size.ok (hr.mono (by decide)) (by rfl) D__law_a_size.m D__law_a_size.kp D__law_a_size.b .nil pass0 (pa_cons (pv 1) pa_nil)) (pa_cons (pe_call D__law_a_size.ok (hr.mono (by decide)) (by rfl) D__law_a_size.m D__law_a_size.kp D__law_a_size.b .nil pass0 (pa_cons (pv 1) pa_nil)) (pa_cons (pe_call D__law_a_size.ok (hr.mono (by decide)) (by rfl) D__law_a_size.m D__law_a_size.kp D__law_a_size.b .nil pass0 (pa_cons (pv 1) pa_nil)) pa_nil)))))
  (pss_cons (ps_par (i := 6) (j := 7) rfl sc_law.nd rfl rfl (by decide) rfl rfl (pa_cons (pe_call D__law_a_size.ok (hr.mono (by decide)) (by rfl) D__law_a_size.m D__law_a_size.kp D__law_a_size.b .nil pass0 (pa_cons (pv 1) pa_nil)) (pa_cons (pe_call D__law_pick.ok (hr.mono (by decide)) (by rfl) D__law_pick.m D__law_pick.kp D__law_pick.b .nil pass0 (pa_cons (pv 1) (pa_cons (pe_lst (pa_cons pe_int (pa_cons pe_int (pa_cons pe_int (pa_cons (pe_call D__law_a_size.ok (hr.mono (by decide)) (by rfl) D__law_a_size.m D__law_a_size.kp D__law_a_size.b .nil pass0 (pa_cons (pv 1) pa_nil)) pa_nil))))) pa_nil))) pa_nil)) (by rfl))
  (pss_cons (ps_if (pt_not (pt_val (pe_call D__law_same.ok (hr.mono (by decide)) (by rfl) D__law_same.m D__law_same.kp D__law_same.b .nil pass0 (pa_cons (pe_callK0 D_token_size.ok (hr.mono (by decide)) (by rfl) D_token_size.m D_token_size.kp kb_token_size pass0 (pk_cons (pv 6) (pk_cons (pv 7) (pk_cons (pv 4) pk_nil)))) (pa_cons (pe_call D__law_token.ok (hr.mono (by decide)) (by rfl) D__law_token.m D__law_token.kp D__law_token.b .nil pass0 (pa_cons (pv 6) (pa_cons (pv 7) (pa_cons (pv 4) pa_nil)))) pa_nil)))))
  (pss_one (ps_ret pe_bl))
  pss_nil)
  (pss_cons (ps_if (pt_not (pt_val (pe_call D__law_least_right.ok (hr.mono (by decide)) (by rfl) D__law_least_right.m D__law_least_right.kp D__law_least_right.b .nil pass0 (pa_cons (pv 1) (pa_cons (pv 2) (pa_cons (pv 3) (pa_cons (pv 4) (pa_cons (pv 6) (pa_cons (pv 7) (pa_cons (pv 5) pa_nil))))))))))
  (pss_one (ps_ret pe_bl))
  pss_nil)
  (pss_cons (ps_for PassesOwn.never rfl (pi_range1 (by rfl) T.range (pa_cons pe_int pa_nil)) (pg_name (i := 8) sc_law.nd rfl (by first | exact Or.inl rfl | exact Or.inr rfl))
  (pss_cons (ps_par (i := 2) (j := 3) rfl sc_law.nd rfl rfl (by decide) rfl rfl (pa_cons (pe_call D__law_draw.ok (hr.mono (by decide)) (by rfl) D__law_draw.m D__law_draw.kp D__law_draw.b .nil pass0 (pa_cons (pv 1) (pa_cons pe_int pa_nil))) (pa_cons (pe_call D__law_draw.ok (hr.mono (by decide)) (by rfl) D__law_draw.m D__law_draw.kp D__law_draw.b .nil pass0 (pa_cons (pv 1) (pa_cons pe_int pa_nil))) pa_nil)) (by rfl))
  (pss_cons (ps_set (i := 5) sc_law.nd rfl (by first | exact Or.inl rfl | exact Or.inr rfl) (pe_tup (pa_cons (pe_call D__law_draw.ok (hr.mono (by decide)) (by rfl) D__law_draw.m D__law_draw.kp D__law_draw.b .nil pass0 (pa_cons (pv 1) (pa_cons pe_int pa_nil))) (pa_cons (pe_call D__law_draw.ok (hr.mono (by decide)) (by rfl) D__law_draw.m D__law_draw.kp D__law_draw.b .nil pass0 (pa_cons (pv 1) (pa_cons pe_int pa_nil))) (pa_cons (pe_call D__law_a_size.ok (hr.mono (by decide)) (by rfl) D__law_a_size.m D__law_a_size.kp D__law_a_size.b .nil pass0 (pa_cons (pv 1) pa_nil)) pa_nil)))))
  (pss_one (ps_if (pt_not (pt_val (pe_call D__law_best_right.ok (hr.mono (by decide)) (by rfl) D__law_best_right.m D__law_best_right.kp D__law_best_right.b .nil pass0 (pa_cons (pv 2) (pa_cons (pv 3) (pa_cons (pe_call D__law_a_size.ok (hr.mono (by decide)) (by rfl) D__law_a_size.m D__law_a_size.kp D__law_a_size.b .nil pass0 (pa_cons (pv 1) pa_nil)) (pa_cons (pe_call D__law_pick.ok (hr.mono (by decide)) (by rfl) D__law_pick.m D__law_pick.kp D__law_pick.b .nil pass0 (pa_cons (pv 1) (pa_cons (pe_lst (pa_cons pe_int (pa_cons pe_int (pa_cons pe_int (pa_cons (pe_call D__law_a_size.ok (hr.mono (by decide)) (by rfl) D__law_a_size.m D__law_a_size.kp D__law_a_size.b .nil pass0 (pa_cons (pv 1) pa_nil)) pa_nil))))) pa_nil))) (pa_cons (pv 5) pa_nil))))))))
  (pss_one (ps_ret pe_bl))
  pss_nil)))))
  (pss_one (ps_ret pe_bl))))))))), ?_⟩
    refine ⟨_, rfl, a, ns, rfl, hS, hl, fun w q H1 _ _ _ hh1 => ?_⟩
    -- f, spread, m
    refine ⟨_, rfl, (by show 7 ≤ sizeLine; decide), fun s1 hs1 => ?_⟩
    have hh2 := hh1.same (same_new (o := .lst [.int 0, .int 0, .int 1, .int 1, .int 2, .int 3, .int 4]) hs1)
    obtain ⟨n1, n2⟩ := hh1.ne hs1
    refine ⟨w, q, s1, _, rfl, hh2, upd_same, n1, n2, (by show 0 < 7; decide), (by show 7 < 1000000; decide), fun fv H3 hfv _ hh3 => ?_⟩
    obtain ⟨f, rfl, hf⟩ : ∃ f : Int, fv = .int f ∧ (0 ≤ f ∧ f ≤ 4) := by
      simp only [List.mem_cons, List.not_mem_nil, or_false] at hfv
      rcases hfv with rfl | rfl | rfl | rfl | rfl | rfl | rfl <;> exact ⟨_, rfl, by decide, by decide⟩
    refine ⟨_, rfl, _, rfl, w, q, 13, rfl, hh3, by decide, by decide, fun r1 H4 r10 r11 _ hh4 => ?_⟩
    refine ⟨(by show 6 ≤ sizeLine; decide), fun s2 hs2 => ?_⟩
    have hh5 := hh4.same (same_new (o := .lst [.int 0, .int 1, .int 1, .int 2, .int 3, .int r1]) hs2)
    obtain ⟨n3, n4⟩ := hh4.ne hs2
    refine ⟨w, q, s2, _, rfl, hh5, upd_same, n3, n4, (by show 0 < 6; decide), (by show 6 < 1000000; decide), fun sv H6 hsv _ hh6 => ?_⟩
    obtain ⟨spread, rfl, hsp⟩ : ∃ f : Int, sv = .int f ∧ (0 ≤ f ∧ f ≤ 12) := by
      simp only [List.mem_cons, List.not_mem_nil, or_false] at hsv
      rcases hsv with rfl | rfl | rfl | rfl | rfl | rfl
      · exact ⟨_, rfl, by decide, by decide⟩
      · exact ⟨_, rfl, by decide, by decide⟩
      · exact ⟨_, rfl, by decide, by decide⟩
      · exact ⟨_, rfl, by decide, by decide⟩
      · exact ⟨_, rfl, by decide, by decide⟩
      · exact ⟨_, rfl, by omega, by omega⟩
    refine ⟨_, rfl, w, q, 6, rfl, hh6, by decide, by decide, fun r2 H7 r20 r21 _ hh7 => ⟨_, _, rfl, rfl, ?_⟩⟩
    refine ⟨_, _, _, rfl, ?_⟩
    have hm : 1 ≤ 1 + r2 ∧ 1 + r2 ≤ 6 := by omega
    -- prices
    refine ⟨_, rfl, w, q, rfl, hh7, fun p0 H8 p00 p01 _ hh8 => ?_⟩
    refine ⟨_, rfl, w, q, rfl, hh8, fun p1 H9 p10 p11 _ hh9 => ?_⟩
    refine ⟨_, rfl, w, q, rfl, hh9, fun p2 H10 p20 p21 _ hh10 => ?_⟩
    refine ⟨(by show 3 ≤ sizeLine; decide), fun b hb => ?_⟩
    have hh11 := hh10.same (same_new (o := .tup [.int p0, .int p1, .int p2]) hb)
    have hb11 : upd H10 b (.tup [.int p0, .int p1, .int p2]) b = some (.tup [.int p0, .int p1, .int p2]) := upd_same
    obtain ⟨nbw, nbq⟩ := hh10.ne hb
    generalize upd H10 b (.tup [.int p0, .int p1, .int p2]) = H11 at hh11 hb11 ⊢
    -- size, mark
    refine ⟨_, rfl, w, q, rfl, hh11, fun size H12 z0 z1 fr12 hh12 => ?_⟩
    have hb12 := fr12 _ _ nbw nbq hb11
    refine ⟨_, rfl, _, rfl, w, q, rfl, hh12, fun k0 H13 k00 k01 fr13 hh13 => ?_⟩
    have hb13 := fr13 _ _ nbw nbq hb12
    refine ⟨(by show 4 ≤ sizeLine; decide), fun s3 hs3 => ?_⟩
    have sm14 := same_new (o := .lst [.int 0, .int 1, .int 2, .int k0]) hs3
    have hh14 := hh13.same sm14
    have hb14 := sm14 _ _ hb13
    obtain ⟨n5, n6⟩ := hh13.ne hs3
    refine ⟨w, q, s3, _, rfl, hh14, upd_same, n5, n6, (by show 0 < 4; decide), (by show 4 < 1000000; decide), fun mv H15 hmv fr15 hh15 => ?_⟩
    have hb15 := fr15 _ _ nbw nbq hb14
    obtain ⟨mark, rfl, hmk⟩ : ∃ f : Int, mv = .int f ∧ (0 ≤ f ∧ f ≤ 10 ^ 12) := by
      simp only [List.mem_cons, List.not_mem_nil, or_false] at hmv
      rcases hmv with rfl | rfl | rfl | rfl
      · exact ⟨_, rfl, by decide, by decide⟩
      · exact ⟨_, rfl, by decide, by decide⟩
      · exact ⟨_, rfl, by decide, by decide⟩
      · exact ⟨_, rfl, k00, k01⟩
    refine ⟨_, _, rfl, ?_⟩
    -- the token's size
    refine ⟨_, rfl, _, rfl, _, rfl, size, mark, 1 + r2, rfl, by omega, by omega, ?_⟩
    refine ⟨_, rfl, _, rfl, _, rfl, size, mark, 1 + r2, rfl, z0, hm.1, hm.2, ?_⟩
    refine ⟨.inl ⟨_, rfl⟩, fun H16 s16 => ⟨_, rfl, iteF ?_⟩⟩
    -- the least
    refine ⟨_, rfl, _, rfl, _, rfl, _, rfl, _, rfl, _, rfl, _, rfl, w, q, f, spread, 1 + r2, size, mark, p0, p1, p2, b, rfl, hh15.same s16, s16 _ _ hb15, hf, hsp, hm, ⟨z0, z1⟩, hmk, p00, p10, p20, fun H17 _ hh17 => ⟨_, rfl, iteF ?_⟩⟩
    -- the turns
    refine ⟨6, rfl, by decide, by decide, ?_⟩
    refine for_range (n := (6 : Int).toNat) (fun i σ H' => ∃ x2 x3 x4 x5 x6 x7 x8, σ = [some (.ref a), some (.ref w), x2, x3, x4, x5, x6, x7, x8] ∧ HeapAt H' w q) ⟨_, _, _, _, _, _, _, rfl, hh17⟩ ?_ ?_
    · rintro i σ H18 hi ⟨x2, x3, x4, x5, x6, x7, x8, rfl, hh18⟩
      refine ⟨_, rfl, w, q, 5, rfl, hh18, by decide, by decide, fun f H19 f0 f1 _ hh19 => ?_⟩
      refine ⟨_, rfl, w, q, 13, rfl, hh19, by decide, by decide, fun spread H20 g0 g1 _ hh20 => ?_⟩
      refine ⟨_, _, rfl, ?_⟩
      refine ⟨_, rfl, w, q, 30, rfl, hh20, by decide, by decide, fun p0 H21 p00 p01 _ hh21 => ?_⟩
      refine ⟨_, rfl, w, q, 30, rfl, hh21, by decide, by decide, fun p1 H22 p10 p11 _ hh22 => ?_⟩
      refine ⟨_, rfl, w, q, rfl, hh22, fun p2 H23 p20 p21 _ hh23 => ?_⟩
      refine ⟨(by show 3 ≤ sizeLine; decide), fun b hb => ?_⟩
      have hh24 := hh23.same (same_new (o := .tup [.int p0, .int p1, .int p2]) hb)
      have hb24 : upd H23 b (.tup [.int p0, .int p1, .int p2]) b = some (.tup [.int p0, .int p1, .int p2]) := upd_same
      obtain ⟨nbw, nbq⟩ := hh23.ne hb
      generalize upd H23 b (.tup [.int p0, .int p1, .int p2]) = H24 at hh24 hb24 ⊢
      refine ⟨_, rfl, _, rfl, _, rfl, w, q, rfl, hh24, fun size H25 z0 z1 fr25 hh25 => ?_⟩
      have hb25 := fr25 _ _ nbw nbq hb24
      refine ⟨_, rfl, _, rfl, w, q, rfl, hh25, fun k0 H26 k00 k01 fr26 hh26 => ?_⟩
      have hb26 := fr26 _ _ nbw nbq hb25
      refine ⟨(by show 4 ≤ sizeLine; decide), fun s3 hs3 => ?_⟩
      have sm27 := same_new (o := .lst [.int 0, .int 1, .int 5, .int k0]) hs3
      have hh27 := hh26.same sm27
      have hb27 := sm27 _ _ hb26
      obtain ⟨n5, n6⟩ := hh26.ne hs3
      refine ⟨w, q, s3, _, rfl, hh27, upd_same, n5, n6, (by show 0 < 4; decide), (by show 4 < 1000000; decide), fun mv H28 hmv fr28 hh28 => ?_⟩
      have hb28 := fr28 _ _ nbw nbq hb27
      obtain ⟨mark, rfl, hmk⟩ : ∃ f : Int, mv = .int f ∧ (0 ≤ f ∧ f ≤ 10 ^ 12) := by
        simp only [List.mem_cons, List.not_mem_nil, or_false] at hmv
        rcases hmv with rfl | rfl | rfl | rfl
        · exact ⟨_, rfl, by decide, by decide⟩
        · exact ⟨_, rfl, by decide, by decide⟩
        · exact ⟨_, rfl, by decide, by decide⟩
        · exact ⟨_, rfl, k00, k01⟩
      refine ⟨_, rfl, f, spread, size, mark, p0, p1, p2, b, rfl, SqT.of hb28, by omega, by omega, ⟨z0, z1⟩, hmk, fun H29 s29 => ⟨_, rfl, iteF ?_⟩⟩
      exact ⟨_, _, _, _, _, _, _, rfl, hh28.same s29⟩
    · rintro σ H18 ⟨x2, x3, x4, x5, x6, x7, x8, rfl, hh18⟩
      exact k _
end
end K55

namespace K55
open PySem PySem.Spec PyProof.Rows L2 Hl
theorem all_mk {l : PySem.W.OpenLaw} {w : World} {K : PySem.W.Frag} {h : Heap} {mg : Str → Option Value} {fa : Addr} (X : K.In h) (G : h.Ns mainGlobals mg) (hfa : mg "law" = some (.ref fa))
    {f_0 f_1 f_2 f_3 f_4 f_5 f_6 f_7 f_8 f_9 f_10 f_11 f_12 f_13 f_14 f_15 f_16 f_17 f_18 f_19 f_20 f_21 f_22 f_23 : Addr} {C_Numbers : Addr} {t_MOST_COPIES t_MOST_LAG t_MOST_PIECES : Tok}
    {od_0 an_0 : Option Addr} {sl_0 : Array (Option Value)} {oc_0 kV_0 dc_0 pm_0 cd_0 ct_0 : Value}
    {od_1 an_1 : Option Addr} {sl_1 : Array (Option Value)} {oc_1 kV_1 dc_1 pm_1 cd_1 ct_1 : Value}
    {tT_1 : Addr} {ocT_1 : Value} {odT_1 : Option Addr} {slT_1 : Array (Option Value)} {nT_1 : Nat}
    {od_2 an_2 : Option Addr} {sl_2 : Array (Option Value)} {oc_2 kV_2 dc_2 pm_2 cd_2 ct_2 : Value}
    {od_3 an_3 : Option Addr} {sl_3 : Array (Option Value)} {oc_3 kV_3 dc_3 pm_3 cd_3 ct_3 : Value}
    {od_4 an_4 : Option Addr} {sl_4 : Array (Option Value)} {oc_4 kV_4 dc_4 pm_4 cd_4 ct_4 : Value}
    {od_5 an_5 : Option Addr} {sl_5 : Array (Option Value)} {oc_5 kV_5 dc_5 pm_5 cd_5 ct_5 : Value}
    {od_6 an_6 : Option Addr} {sl_6 : Array (Option Value)} {oc_6 kV_6 dc_6 pm_6 cd_6 ct_6 : Value}
    {od_7 an_7 : Option Addr} {sl_7 : Array (Option Value)} {oc_7 kV_7 dc_7 pm_7 cd_7 ct_7 : Value}
    {od_8 an_8 : Option Addr} {sl_8 : Array (Option Value)} {oc_8 kV_8 dc_8 pm_8 cd_8 ct_8 : Value}
    {od_9 an_9 : Option Addr} {sl_9 : Array (Option Value)} {oc_9 kV_9 dc_9 pm_9 cd_9 ct_9 : Value}
    {od_10 an_10 : Option Addr} {sl_10 : Array (Option Value)} {oc_10 kV_10 dc_10 pm_10 cd_10 ct_10 : Value}
    {od_11 an_11 : Option Addr} {sl_11 : Array (Option Value)} {oc_11 kV_11 dc_11 pm_11 cd_11 ct_11 : Value}
    {od_12 an_12 : Option Addr} {sl_12 : Array (Option Value)} {oc_12 kV_12 dc_12 pm_12 cd_12 ct_12 : Value}
    {od_13 an_13 : Option Addr} {sl_13 : Array (Option Value)} {oc_13 kV_13 dc_13 pm_13 cd_13 ct_13 : Value}
    {od_14 an_14 : Option Addr} {sl_14 : Array (Option Value)} {oc_14 kV_14 dc_14 pm_14 cd_14 ct_14 : Value}
    {od_15 an_15 : Option Addr} {sl_15 : Array (Option Value)} {oc_15 kV_15 dc_15 pm_15 cd_15 ct_15 : Value}
    {od_16 an_16 : Option Addr} {sl_16 : Array (Option Value)} {oc_16 kV_16 dc_16 pm_16 cd_16 ct_16 : Value}
    {od_17 an_17 : Option Addr} {sl_17 : Array (Option Value)} {oc_17 kV_17 dc_17 pm_17 cd_17 ct_17 : Value}
    {od_18 an_18 : Option Addr} {sl_18 : Array (Option Value)} {oc_18 kV_18 dc_18 pm_18 cd_18 ct_18 : Value}
    {od_19 an_19 : Option Addr} {sl_19 : Array (Option Value)} {oc_19 kV_19 dc_19 pm_19 cd_19 ct_19 : Value}
    {od_20 an_20 : Option Addr} {sl_20 : Array (Option Value)} {oc_20 kV_20 dc_20 pm_20 cd_20 ct_20 : Value}
    {od_21 an_21 : Option Addr} {sl_21 : Array (Option Value)} {oc_21 kV_21 dc_21 pm_21 cd_21 ct_21 : Value}
    {od_22 an_22 : Option Addr} {sl_22 : Array (Option Value)} {oc_22 kV_22 dc_22 pm_22 cd_22 ct_22 : Value}
    {od_23 an_23 : Option Addr} {sl_23 : Array (Option Value)} {oc_23 kV_23 dc_23 pm_23 cd_23 ct_23 : Value}
    (z_isinstance : PySem.W.nsIn K mainGlobals "isinstance" = some none)
    (z_int : PySem.W.nsIn K mainGlobals "int" = some none)
    (z_bool : PySem.W.nsIn K mainGlobals "bool" = some none)
    (z_tuple : PySem.W.nsIn K mainGlobals "tuple" = some none)
    (z_range : PySem.W.nsIn K mainGlobals "range" = some none)
    (z_zip : PySem.W.nsIn K mainGlobals "zip" = some none)
    (z_enumerate : PySem.W.nsIn K mainGlobals "enumerate" = some none)
    (z_len : PySem.W.nsIn K mainGlobals "len" = some none)
    (z_abs : PySem.W.nsIn K mainGlobals "abs" = some none)
    (z_min : PySem.W.nsIn K mainGlobals "min" = some none)
    (z_max : PySem.W.nsIn K mainGlobals "max" = some none)
    (z_sum : PySem.W.nsIn K mainGlobals "sum" = some none)
    (g_MOST_COPIES : PySem.W.nsIn K mainGlobals "MOST_COPIES" = some (some (.int 12 t_MOST_COPIES)))
    (g_MOST_LAG : PySem.W.nsIn K mainGlobals "MOST_LAG" = some (some (.int 200 t_MOST_LAG)))
    (g_MOST_PIECES : PySem.W.nsIn K mainGlobals "MOST_PIECES" = some (some (.int 6 t_MOST_PIECES)))
    (aC : PySem.W.nsIn K mainGlobals "Numbers" = some (some (.ref C_Numbers)))
    (pg : PySem.W.plainGet K C_Numbers Str.empty = true)
    (hd : PySem.W.hasDictIn K C_Numbers = true)
    (po : PySem.W.plainOver K C_Numbers = true)
    (sa : PySem.W.findIn K (.ref C_Numbers) "__setattr__" = some (some (.builtin "object.__setattr__")))
    (mk : PySem.W.makesIn K C_Numbers = true)
    (kc : PySem.W.keepIn K (.ref C_Numbers) = true)
    (n_k : PySem.W.findIn K (.ref C_Numbers) "k" = some none)
    (n_f : PySem.W.findIn K (.ref C_Numbers) "f" = some none)
    (n_d : PySem.W.findIn K (.ref C_Numbers) "d" = some none)
    (n_m : PySem.W.findIn K (.ref C_Numbers) "m" = some none)
    (n_w1 : PySem.W.findIn K (.ref C_Numbers) "w1" = some none)
    (n_w2 : PySem.W.findIn K (.ref C_Numbers) "w2" = some none)
    (n_g : PySem.W.findIn K (.ref C_Numbers) "g" = some none)
    (i1 : PySem.W.findIn K (.ref C_Numbers) "__class__" = some (some (.builtin "object.__class__")))
    (i2 : PySem.W.specialIn K (.builtin "object.__class__") "__get__" = some (some (.builtin "getset_descriptor.__get__")))
    (i3 : PySem.W.takesIn K (.builtin "object.__class__") = some true)
    (i4 : PySem.W.mroIn K C_Numbers (.type "object") = some true)
    (a_0 : PySem.W.nsIn K mainGlobals "is_integer" = some (some (.ref f_0)))
    (l_0 : K.lookup f_0 = some ⟨oc_0, od_0, .func (PySem.W.fnOf "is_integer" "is_integer" (defArgs s_is_integer) (defBody s_is_integer) (defScope s_is_integer) .none kV_0 dc_0 pm_0 an_0 cd_0 ct_0), sl_0⟩)
    (c_0 : PySem.W.codeIn K cd_0 "is_integer" = true)
    (k_0 : PySem.W.keepIn K (.ref f_0) = true)
    (a_1 : PySem.W.nsIn K mainGlobals "is_number" = some (some (.ref f_1)))
    (l_1 : K.lookup f_1 = some ⟨oc_1, od_1, .func (PySem.W.fnOf "is_number" "is_number" (defArgs s_is_number) (defBody s_is_number) (defScope s_is_number) (.ref tT_1) kV_1 dc_1 pm_1 an_1 cd_1 ct_1), sl_1⟩)
    (c_1 : PySem.W.codeIn K cd_1 "is_number" = true)
    (k_1 : PySem.W.keepIn K (.ref f_1) = true)
    (t_1 : K.lookup tT_1 = some ⟨ocT_1, odT_1, .seq ([.none] : List Value).toArray nT_1, slT_1⟩)
    (a_2 : PySem.W.findIn K (.ref C_Numbers) "__init__" = some (some (.ref f_2)))
    (i_2 : PySem.W.isFn K (.ref f_2) = true)
    (l_2 : K.lookup f_2 = some ⟨oc_2, od_2, .func (PySem.W.fnOf "__init__" "Numbers.__init__" (defArgs s_Numbers_init) (defBody s_Numbers_init) (defScope s_Numbers_init) .none kV_2 dc_2 pm_2 an_2 cd_2 ct_2), sl_2⟩)
    (c_2 : PySem.W.codeIn K cd_2 "Numbers.__init__" = true)
    (k_2 : PySem.W.keepIn K (.ref f_2) = true)
    (a_3 : PySem.W.nsIn K mainGlobals "token_size" = some (some (.ref f_3)))
    (l_3 : K.lookup f_3 = some ⟨oc_3, od_3, .func (PySem.W.fnOf "token_size" "token_size" (defArgs s_token_size) (defBody s_token_size) (defScope s_token_size) .none kV_3 dc_3 pm_3 an_3 cd_3 ct_3), sl_3⟩)
    (c_3 : PySem.W.codeIn K cd_3 "token_size" = true)
    (k_3 : PySem.W.keepIn K (.ref f_3) = true)
    (a_4 : PySem.W.nsIn K mainGlobals "least_counts" = some (some (.ref f_4)))
    (l_4 : K.lookup f_4 = some ⟨oc_4, od_4, .func (PySem.W.fnOf "least_counts" "least_counts" (defArgs s_least_counts) (defBody s_least_counts) (defScope s_least_counts) .none kV_4 dc_4 pm_4 an_4 cd_4 ct_4), sl_4⟩)
    (c_4 : PySem.W.codeIn K cd_4 "least_counts" = true)
    (k_4 : PySem.W.keepIn K (.ref f_4) = true)
    (a_5 : PySem.W.nsIn K mainGlobals "least_numbers" = some (some (.ref f_5)))
    (l_5 : K.lookup f_5 = some ⟨oc_5, od_5, .func (PySem.W.fnOf "least_numbers" "least_numbers" (defArgs s_least_numbers) (defBody s_least_numbers) (defScope s_least_numbers) .none kV_5 dc_5 pm_5 an_5 cd_5 ct_5), sl_5⟩)
    (c_5 : PySem.W.codeIn K cd_5 "least_numbers" = true)
    (k_5 : PySem.W.keepIn K (.ref f_5) = true)
    (a_6 : PySem.W.nsIn K mainGlobals "cost_of" = some (some (.ref f_6)))
    (l_6 : K.lookup f_6 = some ⟨oc_6, od_6, .func (PySem.W.fnOf "cost_of" "cost_of" (defArgs s_cost_of) (defBody s_cost_of) (defScope s_cost_of) .none kV_6 dc_6 pm_6 an_6 cd_6 ct_6), sl_6⟩)
    (c_6 : PySem.W.codeIn K cd_6 "cost_of" = true)
    (k_6 : PySem.W.keepIn K (.ref f_6) = true)
    (a_7 : PySem.W.nsIn K mainGlobals "best_m" = some (some (.ref f_7)))
    (l_7 : K.lookup f_7 = some ⟨oc_7, od_7, .func (PySem.W.fnOf "best_m" "best_m" (defArgs s_best_m) (defBody s_best_m) (defScope s_best_m) .none kV_7 dc_7 pm_7 an_7 cd_7 ct_7), sl_7⟩)
    (c_7 : PySem.W.codeIn K cd_7 "best_m" = true)
    (k_7 : PySem.W.keepIn K (.ref f_7) = true)
    (a_8 : PySem.W.nsIn K mainGlobals "_law_heap" = some (some (.ref f_8)))
    (l_8 : K.lookup f_8 = some ⟨oc_8, od_8, .func (PySem.W.fnOf "_law_heap" "_law_heap" (defArgs s__law_heap) (defBody s__law_heap) (defScope s__law_heap) .none kV_8 dc_8 pm_8 an_8 cd_8 ct_8), sl_8⟩)
    (c_8 : PySem.W.codeIn K cd_8 "_law_heap" = true)
    (k_8 : PySem.W.keepIn K (.ref f_8) = true)
    (a_9 : PySem.W.nsIn K mainGlobals "_law_draw" = some (some (.ref f_9)))
    (l_9 : K.lookup f_9 = some ⟨oc_9, od_9, .func (PySem.W.fnOf "_law_draw" "_law_draw" (defArgs s__law_draw) (defBody s__law_draw) (defScope s__law_draw) .none kV_9 dc_9 pm_9 an_9 cd_9 ct_9), sl_9⟩)
    (c_9 : PySem.W.codeIn K cd_9 "_law_draw" = true)
    (k_9 : PySem.W.keepIn K (.ref f_9) = true)
    (a_10 : PySem.W.nsIn K mainGlobals "_law_pick" = some (some (.ref f_10)))
    (l_10 : K.lookup f_10 = some ⟨oc_10, od_10, .func (PySem.W.fnOf "_law_pick" "_law_pick" (defArgs s__law_pick) (defBody s__law_pick) (defScope s__law_pick) .none kV_10 dc_10 pm_10 an_10 cd_10 ct_10), sl_10⟩)
    (c_10 : PySem.W.codeIn K cd_10 "_law_pick" = true)
    (k_10 : PySem.W.keepIn K (.ref f_10) = true)
    (a_11 : PySem.W.nsIn K mainGlobals "_law_same" = some (some (.ref f_11)))
    (l_11 : K.lookup f_11 = some ⟨oc_11, od_11, .func (PySem.W.fnOf "_law_same" "_law_same" (defArgs s__law_same) (defBody s__law_same) (defScope s__law_same) .none kV_11 dc_11 pm_11 an_11 cd_11 ct_11), sl_11⟩)
    (c_11 : PySem.W.codeIn K cd_11 "_law_same" = true)
    (k_11 : PySem.W.keepIn K (.ref f_11) = true)
    (a_12 : PySem.W.nsIn K mainGlobals "_law_whole" = some (some (.ref f_12)))
    (l_12 : K.lookup f_12 = some ⟨oc_12, od_12, .func (PySem.W.fnOf "_law_whole" "_law_whole" (defArgs s__law_whole) (defBody s__law_whole) (defScope s__law_whole) .none kV_12 dc_12 pm_12 an_12 cd_12 ct_12), sl_12⟩)
    (c_12 : PySem.W.codeIn K cd_12 "_law_whole" = true)
    (k_12 : PySem.W.keepIn K (.ref f_12) = true)
    (a_13 : PySem.W.nsIn K mainGlobals "_law_is_safe" = some (some (.ref f_13)))
    (l_13 : K.lookup f_13 = some ⟨oc_13, od_13, .func (PySem.W.fnOf "_law_is_safe" "_law_is_safe" (defArgs s__law_is_safe) (defBody s__law_is_safe) (defScope s__law_is_safe) .none kV_13 dc_13 pm_13 an_13 cd_13 ct_13), sl_13⟩)
    (c_13 : PySem.W.codeIn K cd_13 "_law_is_safe" = true)
    (k_13 : PySem.W.keepIn K (.ref f_13) = true)
    (a_14 : PySem.W.nsIn K mainGlobals "_law_sees" = some (some (.ref f_14)))
    (l_14 : K.lookup f_14 = some ⟨oc_14, od_14, .func (PySem.W.fnOf "_law_sees" "_law_sees" (defArgs s__law_sees) (defBody s__law_sees) (defScope s__law_sees) .none kV_14 dc_14 pm_14 an_14 cd_14 ct_14), sl_14⟩)
    (c_14 : PySem.W.codeIn K cd_14 "_law_sees" = true)
    (k_14 : PySem.W.keepIn K (.ref f_14) = true)
    (a_15 : PySem.W.nsIn K mainGlobals "_law_plain_numbers" = some (some (.ref f_15)))
    (l_15 : K.lookup f_15 = some ⟨oc_15, od_15, .func (PySem.W.fnOf "_law_plain_numbers" "_law_plain_numbers" (defArgs s__law_plain_numbers) (defBody s__law_plain_numbers) (defScope s__law_plain_numbers) .none kV_15 dc_15 pm_15 an_15 cd_15 ct_15), sl_15⟩)
    (c_15 : PySem.W.codeIn K cd_15 "_law_plain_numbers" = true)
    (k_15 : PySem.W.keepIn K (.ref f_15) = true)
    (a_16 : PySem.W.nsIn K mainGlobals "_law_token" = some (some (.ref f_16)))
    (l_16 : K.lookup f_16 = some ⟨oc_16, od_16, .func (PySem.W.fnOf "_law_token" "_law_token" (defArgs s__law_token) (defBody s__law_token) (defScope s__law_token) .none kV_16 dc_16 pm_16 an_16 cd_16 ct_16), sl_16⟩)
    (c_16 : PySem.W.codeIn K cd_16 "_law_token" = true)
    (k_16 : PySem.W.keepIn K (.ref f_16) = true)
    (a_17 : PySem.W.nsIn K mainGlobals "_law_cost" = some (some (.ref f_17)))
    (l_17 : K.lookup f_17 = some ⟨oc_17, od_17, .func (PySem.W.fnOf "_law_cost" "_law_cost" (defArgs s__law_cost) (defBody s__law_cost) (defScope s__law_cost) .none kV_17 dc_17 pm_17 an_17 cd_17 ct_17), sl_17⟩)
    (c_17 : PySem.W.codeIn K cd_17 "_law_cost" = true)
    (k_17 : PySem.W.keepIn K (.ref f_17) = true)
    (a_18 : PySem.W.nsIn K mainGlobals "_law_counts" = some (some (.ref f_18)))
    (l_18 : K.lookup f_18 = some ⟨oc_18, od_18, .func (PySem.W.fnOf "_law_counts" "_law_counts" (defArgs s__law_counts) (defBody s__law_counts) (defScope s__law_counts) .none kV_18 dc_18 pm_18 an_18 cd_18 ct_18), sl_18⟩)
    (c_18 : PySem.W.codeIn K cd_18 "_law_counts" = true)
    (k_18 : PySem.W.keepIn K (.ref f_18) = true)
    (a_19 : PySem.W.nsIn K mainGlobals "_law_a_size" = some (some (.ref f_19)))
    (l_19 : K.lookup f_19 = some ⟨oc_19, od_19, .func (PySem.W.fnOf "_law_a_size" "_law_a_size" (defArgs s__law_a_size) (defBody s__law_a_size) (defScope s__law_a_size) .none kV_19 dc_19 pm_19 an_19 cd_19 ct_19), sl_19⟩)
    (c_19 : PySem.W.codeIn K cd_19 "_law_a_size" = true)
    (k_19 : PySem.W.keepIn K (.ref f_19) = true)
    (a_20 : PySem.W.nsIn K mainGlobals "_law_all_counts" = some (some (.ref f_20)))
    (l_20 : K.lookup f_20 = some ⟨oc_20, od_20, .func (PySem.W.fnOf "_law_all_counts" "_law_all_counts" (defArgs s__law_all_counts) (defBody s__law_all_counts) (defScope s__law_all_counts) .none kV_20 dc_20 pm_20 an_20 cd_20 ct_20), sl_20⟩)
    (c_20 : PySem.W.codeIn K cd_20 "_law_all_counts" = true)
    (k_20 : PySem.W.keepIn K (.ref f_20) = true)
    (a_21 : PySem.W.nsIn K mainGlobals "_law_least_right" = some (some (.ref f_21)))
    (l_21 : K.lookup f_21 = some ⟨oc_21, od_21, .func (PySem.W.fnOf "_law_least_right" "_law_least_right" (defArgs s__law_least_right) (defBody s__law_least_right) (defScope s__law_least_right) .none kV_21 dc_21 pm_21 an_21 cd_21 ct_21), sl_21⟩)
    (c_21 : PySem.W.codeIn K cd_21 "_law_least_right" = true)
    (k_21 : PySem.W.keepIn K (.ref f_21) = true)
    (a_22 : PySem.W.nsIn K mainGlobals "_law_best_right" = some (some (.ref f_22)))
    (l_22 : K.lookup f_22 = some ⟨oc_22, od_22, .func (PySem.W.fnOf "_law_best_right" "_law_best_right" (defArgs s__law_best_right) (defBody s__law_best_right) (defScope s__law_best_right) .none kV_22 dc_22 pm_22 an_22 cd_22 ct_22), sl_22⟩)
    (c_22 : PySem.W.codeIn K cd_22 "_law_best_right" = true)
    (k_22 : PySem.W.keepIn K (.ref f_22) = true)
    (a_23 : PySem.W.nsIn K mainGlobals "law" = some (some (.ref f_23)))
    (l_23 : K.lookup f_23 = some ⟨oc_23, od_23, .func (PySem.W.fnOf "law" "law" (defArgs s_law) (defBody s_law) (defScope s_law) .none kV_23 dc_23 pm_23 an_23 cd_23 ct_23), sl_23⟩)
    (c_23 : PySem.W.codeIn K cd_23 "law" = true)
    (k_23 : PySem.W.keepIn K (.ref f_23) = true)
    : ∃ fd : FuncData, (∀ (s : Shared) (v : Value), BindsTo s fd ⟨[v], []⟩ [("script", v)]) ∧ ∀ base : Heap, K.In base → base.Ns mainGlobals mg → FnOk l.prog w K mg base CX0 7 fa fd ["script"] (sp_law K) := by
  have e := hfa.symm.trans (PySem.W.mg_of X G a_23)
  cases e
  have F_is_integer := fun_mk (st := s_is_integer) l_0 c_0 k_0
  have b_is_integer := F_is_integer.binds (ps := ["value"]) fun _ _ _ _ _ _ us hl => match us, hl with | [_], _ => rfl
  have F_is_number : FunD K "is_number" "is_number" (defArgs s_is_number) (defBody s_is_number) (defScope s_is_number) [.non] [] f_1 _ := ⟨⟨_, _, _, _, _, _, _, _, _, _, rfl, l_1, c_1, .inr ⟨by simp, _, _, _, _, rfl, t_1, rfl, .cons rfl .nil⟩, .inl rfl⟩, k_1⟩
  obtain ⟨ds_1, hds_1, b_is_number⟩ := F_is_number.binds1 (ps := ["value", "most"]) 2 1 (by simp) (by rfl) (fun _ _ _ _ _ _ _ us its hl hi => match us, its, hl, hi with | [_, _], [_], _, _ => ⟨_, rfl, rfl⟩)
  cases hds_1
  have F_Numbers_init := fun_mk (st := s_Numbers_init) l_2 c_2 k_2
  have b_Numbers_init := F_Numbers_init.binds (ps := ["self", "k", "f", "d", "m", "w1", "w2", "g"]) fun _ _ _ _ _ _ us hl => match us, hl with | [_, _, _, _, _, _, _, _], _ => rfl
  have F_token_size := fun_mk (st := s_token_size) l_3 c_3 k_3
  have b_token_size := F_token_size.binds (ps := ["size", "mark", "m"]) fun _ _ _ _ _ _ us hl => match us, hl with | [_, _, _], _ => rfl
  have F_least_counts := fun_mk (st := s_least_counts) l_4 c_4 k_4
  have b_least_counts := F_least_counts.binds (ps := ["f", "spread", "m"]) fun _ _ _ _ _ _ us hl => match us, hl with | [_, _, _], _ => rfl
  have F_least_numbers := fun_mk (st := s_least_numbers) l_5 c_5 k_5
  have b_least_numbers := F_least_numbers.binds (ps := ["f", "spread", "d", "m"]) fun _ _ _ _ _ _ us hl => match us, hl with | [_, _, _, _], _ => rfl
  have F_cost_of := fun_mk (st := s_cost_of) l_6 c_6 k_6
  have b_cost_of := F_cost_of.binds (ps := ["f", "spread", "m", "size", "mark", "prices"]) fun _ _ _ _ _ _ us hl => match us, hl with | [_, _, _, _, _, _], _ => rfl
  have F_best_m := fun_mk (st := s_best_m) l_7 c_7 k_7
  have b_best_m := F_best_m.binds (ps := ["f", "spread", "size", "mark", "prices"]) fun _ _ _ _ _ _ us hl => match us, hl with | [_, _, _, _, _], _ => rfl
  have F__law_heap := fun_mk (st := s__law_heap) l_8 c_8 k_8
  have b__law_heap := F__law_heap.binds (ps := ["script"]) fun _ _ _ _ _ _ us hl => match us, hl with | [_], _ => rfl
  have F__law_draw := fun_mk (st := s__law_draw) l_9 c_9 k_9
  have b__law_draw := F__law_draw.binds (ps := ["heap", "many"]) fun _ _ _ _ _ _ us hl => match us, hl with | [_, _], _ => rfl
  have F__law_pick := fun_mk (st := s__law_pick) l_10 c_10 k_10
  have b__law_pick := F__law_pick.binds (ps := ["heap", "some"]) fun _ _ _ _ _ _ us hl => match us, hl with | [_, _], _ => rfl
  have F__law_same := fun_mk (st := s__law_same) l_11 c_11 k_11
  have b__law_same := F__law_same.binds (ps := ["value", "due"]) fun _ _ _ _ _ _ us hl => match us, hl with | [_, _], _ => rfl
  have F__law_whole := fun_mk (st := s__law_whole) l_12 c_12 k_12
  have b__law_whole := F__law_whole.binds (ps := ["value", "top"]) fun _ _ _ _ _ _ us hl => match us, hl with | [_, _], _ => rfl
  have F__law_is_safe := fun_mk (st := s__law_is_safe) l_13 c_13 k_13
  have b__law_is_safe := F__law_is_safe.binds (ps := ["row", "spread"]) fun _ _ _ _ _ _ us hl => match us, hl with | [_, _], _ => rfl
  have F__law_sees := fun_mk (st := s__law_sees) l_14 c_14 k_14
  have b__law_sees := F__law_sees.binds (ps := ["row", "spread", "r"]) fun _ _ _ _ _ _ us hl => match us, hl with | [_, _, _], _ => rfl
  have F__law_plain_numbers := fun_mk (st := s__law_plain_numbers) l_15 c_15 k_15
  have b__law_plain_numbers := F__law_plain_numbers.binds (ps := ["numbers"]) fun _ _ _ _ _ _ us hl => match us, hl with | [_], _ => rfl
  have F__law_token := fun_mk (st := s__law_token) l_16 c_16 k_16
  have b__law_token := F__law_token.binds (ps := ["size", "mark", "m"]) fun _ _ _ _ _ _ us hl => match us, hl with | [_, _, _], _ => rfl
  have F__law_cost := fun_mk (st := s__law_cost) l_17 c_17 k_17
  have b__law_cost := F__law_cost.binds (ps := ["counts", "size", "mark", "m", "prices"]) fun _ _ _ _ _ _ us hl => match us, hl with | [_, _, _, _, _], _ => rfl
  have F__law_counts := fun_mk (st := s__law_counts) l_18 c_18 k_18
  have b__law_counts := F__law_counts.binds (ps := ["f", "spread", "m"]) fun _ _ _ _ _ _ us hl => match us, hl with | [_, _, _], _ => rfl
  have F__law_a_size := fun_mk (st := s__law_a_size) l_19 c_19 k_19
  have b__law_a_size := F__law_a_size.binds (ps := ["heap"]) fun _ _ _ _ _ _ us hl => match us, hl with | [_], _ => rfl
  have F__law_all_counts := fun_mk (st := s__law_all_counts) l_20 c_20 k_20
  have b__law_all_counts := F__law_all_counts.binds (ps := ["f", "spread", "m"]) fun _ _ _ _ _ _ us hl => match us, hl with | [_, _, _], _ => rfl
  have F__law_least_right := fun_mk (st := s__law_least_right) l_21 c_21 k_21
  have b__law_least_right := F__law_least_right.binds (ps := ["heap", "f", "spread", "m", "size", "mark", "prices"]) fun _ _ _ _ _ _ us hl => match us, hl with | [_, _, _, _, _, _, _], _ => rfl
  have F__law_best_right := fun_mk (st := s__law_best_right) l_22 c_22 k_22
  have b__law_best_right := F__law_best_right.binds (ps := ["f", "spread", "size", "mark", "prices"]) fun _ _ _ _ _ _ us hl => match us, hl with | [_, _, _, _, _], _ => rfl
  have F_law := fun_mk (st := s_law) l_23 c_23 k_23
  have b_law := F_law.binds (ps := ["script"]) fun _ _ _ _ _ _ us hl => match us, hl with | [_], _ => rfl
  let T : Txt K mg := ⟨PySem.W.mg_none_of X G z_isinstance, PySem.W.mg_none_of X G z_int, PySem.W.mg_none_of X G z_bool, PySem.W.mg_none_of X G z_tuple, PySem.W.mg_none_of X G z_range, PySem.W.mg_none_of X G z_zip, PySem.W.mg_none_of X G z_enumerate, PySem.W.mg_none_of X G z_len, PySem.W.mg_none_of X G z_abs, PySem.W.mg_none_of X G z_min, PySem.W.mg_none_of X G z_max, PySem.W.mg_none_of X G z_sum, t_MOST_COPIES, PySem.W.mg_of X G g_MOST_COPIES, t_MOST_LAG, PySem.W.mg_of X G g_MOST_LAG, t_MOST_PIECES, PySem.W.mg_of X G g_MOST_PIECES, C_Numbers, f_2, PySem.W.mg_of X G aC, ⟨mk, a_2, i_2, kc⟩, ⟨pg, hd, po, sa⟩, n_k, n_f, n_d, n_m, n_w1, n_w2, n_g, i1, i2, i3, i4, kit_self C_Numbers⟩
  refine ⟨PySem.W.fnOf "law" "law" (defArgs s_law) (defBody s_law) (defScope s_law) .none kV_23 dc_23 pm_23 an_23 cd_23 ct_23, fun s v => .of_eq rfl, fun base _ _ => ?_⟩
  let D_is_integer : Df l.prog w K mg base 1 "is_integer" ["value"] (sp_is_integer) := ⟨f_0, _, ok_is_integer F_is_integer T , PySem.W.mg_of X G a_0, k_0, b_is_integer⟩
  let D_is_number : Df l.prog w K mg base 2 "is_number" ["value", "most"] (sp_is_number) := ⟨f_1, _, ok_is_number F_is_number T D_is_integer, PySem.W.mg_of X G a_1, k_1, b_is_number⟩
  have G_Numbers_init : FnOk l.prog w K mg base CX0 3 f_2 _ ["self", "k", "f", "d", "m", "w1", "w2", "g"] (sp_Numbers_init T.C_Numbers) := ok_Numbers_init F_Numbers_init T D_is_number
  let D_token_size : Df l.prog w K mg base 1 "token_size" ["size", "mark", "m"] (sp_token_size) := ⟨f_3, _, ok_token_size F_token_size T , PySem.W.mg_of X G a_3, k_3, b_token_size⟩
  let D_least_counts : Df l.prog w K mg base 1 "least_counts" ["f", "spread", "m"] (sp_least_counts) := ⟨f_4, _, ok_least_counts F_least_counts T , PySem.W.mg_of X G a_4, k_4, b_least_counts⟩
  let D_least_numbers : Df l.prog w K mg base 5 "least_numbers" ["f", "spread", "d", "m"] (sp_least_numbers T.C_Numbers) := ⟨f_5, _, ok_least_numbers F_least_numbers T D_least_counts G_Numbers_init b_Numbers_init, PySem.W.mg_of X G a_5, k_5, b_least_numbers⟩
  let D_cost_of : Df l.prog w K mg base 2 "cost_of" ["f", "spread", "m", "size", "mark", "prices"] (sp_cost_of K) := ⟨f_6, _, ok_cost_of F_cost_of T D_least_counts D_token_size, PySem.W.mg_of X G a_6, k_6, b_cost_of⟩
  let D_best_m : Df l.prog w K mg base 3 "best_m" ["f", "spread", "size", "mark", "prices"] (sp_best_m K) := ⟨f_7, _, ok_best_m F_best_m T D_cost_of, PySem.W.mg_of X G a_7, k_7, b_best_m⟩
  let D__law_heap : Df l.prog w K mg base 1 "_law_heap" ["script"] (sp_heap K) := ⟨f_8, _, ok_heap F__law_heap T , PySem.W.mg_of X G a_8, k_8, b__law_heap⟩
  let D__law_draw : Df l.prog w K mg base 1 "_law_draw" ["heap", "many"] (sp_draw) := ⟨f_9, _, ok_draw F__law_draw T , PySem.W.mg_of X G a_9, k_9, b__law_draw⟩
  let D__law_pick : Df l.prog w K mg base 2 "_law_pick" ["heap", "some"] (sp_pick) := ⟨f_10, _, ok_pick F__law_pick T D__law_draw, PySem.W.mg_of X G a_10, k_10, b__law_pick⟩
  let D_same0 : Df l.prog w K mg base 1 "_law_same" ["value", "due"] sp_same0 := ⟨f_11, _, ok_same0 F__law_same T ⟨f_11, _, nofn, PySem.W.mg_of X G a_11, k_11, b__law_same⟩, PySem.W.mg_of X G a_11, k_11, b__law_same⟩
  let D__law_same : Df l.prog w K mg base 2 "_law_same" ["value", "due"] (sp_same K) := ⟨f_11, _, ok_same T D_same0 F__law_same, PySem.W.mg_of X G a_11, k_11, b__law_same⟩
  let D__law_whole : Df l.prog w K mg base 1 "_law_whole" ["value", "top"] (sp_whole) := ⟨f_12, _, ok_whole F__law_whole T , PySem.W.mg_of X G a_12, k_12, b__law_whole⟩
  let D__law_is_safe : Df l.prog w K mg base 1 "_law_is_safe" ["row", "spread"] (sp_is_safe K) := ⟨f_13, _, ok_is_safe F__law_is_safe T , PySem.W.mg_of X G a_13, k_13, b__law_is_safe⟩
  let D__law_sees : Df l.prog w K mg base 1 "_law_sees" ["row", "spread", "r"] (sp_sees K) := ⟨f_14, _, ok_sees F__law_sees T , PySem.W.mg_of X G a_14, k_14, b__law_sees⟩
  let D__law_plain_numbers : Df l.prog w K mg base 1 "_law_plain_numbers" ["numbers"] (sp_plain T.C_Numbers) := ⟨f_15, _, ok_plain F__law_plain_numbers T , PySem.W.mg_of X G a_15, k_15, b__law_plain_numbers⟩
  let D__law_token : Df l.prog w K mg base 1 "_law_token" ["size", "mark", "m"] (sp_token) := ⟨f_16, _, ok_token F__law_token T , PySem.W.mg_of X G a_16, k_16, b__law_token⟩
  let D__law_cost : Df l.prog w K mg base 2 "_law_cost" ["counts", "size", "mark", "m", "prices"] (sp_cost K) := ⟨f_17, _, ok_cost F__law_cost T D__law_token, PySem.W.mg_of X G a_17, k_17, b__law_cost⟩
  let D__law_counts : Df l.prog w K mg base 1 "_law_counts" ["f", "spread", "m"] (sp_counts) := ⟨f_18, _, ok_counts F__law_counts T , PySem.W.mg_of X G a_18, k_18, b__law_counts⟩
  let D__law_a_size : Df l.prog w K mg base 3 "_law_a_size" ["heap"] (sp_a_size) := ⟨f_19, _, ok_a_size F__law_a_size T D__law_draw D__law_pick, PySem.W.mg_of X G a_19, k_19, b__law_a_size⟩
  let D__law_all_counts : Df l.prog w K mg base 2 "_law_all_counts" ["f", "spread", "m"] (sp_all_counts) := ⟨f_20, _, ok_all_counts F__law_all_counts T D__law_is_safe D__law_sees, PySem.W.mg_of X G a_20, k_20, b__law_all_counts⟩
  let D__law_least_right : Df l.prog w K mg base 6 "_law_least_right" ["heap", "f", "spread", "m", "size", "mark", "prices"] (sp_least_right K) := ⟨f_21, _, ok_least_right F__law_least_right T D__law_all_counts D_least_counts (kb_lc F_least_counts) D__law_whole D__law_draw D_least_numbers (kb_ln F_least_numbers) D_cost_of (kb_cost F_cost_of) D__law_same D__law_plain_numbers D__law_is_safe D__law_sees D__law_cost, PySem.W.mg_of X G a_21, k_21, b__law_least_right⟩
  let D__law_best_right : Df l.prog w K mg base 4 "_law_best_right" ["f", "spread", "size", "mark", "prices"] (sp_best_right K) := ⟨f_22, _, ok_best_right F__law_best_right T D__law_same D__law_counts D_best_m (kb_best F_best_m) D__law_cost, PySem.W.mg_of X G a_22, k_22, b__law_best_right⟩
  exact ok_law F_law T D__law_heap D__law_pick D__law_draw D__law_a_size D__law_same D_token_size (kb_ts F_token_size) D__law_token D__law_least_right D__law_best_right
theorem walk {l : PySem.W.OpenLaw} {q : Program} {loose : List Str} {XP : (Str → Option Value) → Heap → Prop} {YP : World → Heap → Prop} {d : DefRec} {K : Params → PySem.W.Frag} (hn : l.most = some 63) (hdf : d.params.defaults = [])
    (hY : ∀ (w : World) (h : Heap), YP w h → (K w.params).In h)
    (F : ∀ (w : World) (mg : Str → Option Value) (fa : Addr) (h : Heap), (K w.params).In h → h.Ns mainGlobals mg → mg d.name = some (.ref fa) →
      ∃ fd : FuncData, (∀ (s : Shared) (u : Value), BindsTo s fd ⟨[u], []⟩ [("script", u)]) ∧ ∀ base : Heap, (K w.params).In base → base.Ns mainGlobals mg → FnOk l.prog w (K w.params) mg base CX0 7 fa fd ["script"] (sp_law (K w.params))) :
    PySem.W.WalkO q loose XP YP l.row.toRowW d [] (fun f vs => PySem.call f vs) :=
  L2.walk_of (n := 63) (k := 7) (x := "script") (CX := fun _ => CX0) (sp := fun w => sp_law (K w.params)) hn (by decide) hdf ⟨rfl, by decide, by decide⟩ hY F (fun _ _ a ns hl _ hS => ⟨a, ns, rfl, hS, hl, fun _ => rfl⟩) fun _ _ _ _ _ z => z
end K55
open PySem PySem.W PyProof.Rows in
set_option maxRecDepth 100000 in
set_option maxHeartbeats 0 in
theorem PySem.Challenge.cw_piecesapart_k55_whole_the_least_counts_holds : PySem.Challenge.rw_piecesapart_k55_whole_the_least_counts.Holds := by
  w_on; o_law; k_head; (case hw => w_witness2)
  k_fill
  refine K55.walk (l := PySem.Challenge.rw_piecesapart_k55_whole_the_least_counts) rfl rfl (fun w h Y => PySem.W.kIn_of Y) ?F
  case F =>
    intro w mg fa h KX G hmg
    refine' K55.all_mk KX G hmg ?z_isinstance ?z_int ?z_bool ?z_tuple ?z_range ?z_zip ?z_enumerate ?z_len ?z_abs ?z_min ?z_max ?z_sum ?g_MOST_COPIES ?g_MOST_LAG ?g_MOST_PIECES ?aC ?pg ?hd ?po ?sa ?mk ?kc ?n_k ?n_f ?n_d ?n_m ?n_w1 ?n_w2 ?n_g ?i1 ?i2 ?i3 ?i4 ?a_0 ?l_0 ?c_0 ?k_0 ?a_1 ?l_1 ?c_1 ?k_1 ?t_1 ?a_2 ?i_2 ?l_2 ?c_2 ?k_2 ?a_3 ?l_3 ?c_3 ?k_3 ?a_4 ?l_4 ?c_4 ?k_4 ?a_5 ?l_5 ?c_5 ?k_5 ?a_6 ?l_6 ?c_6 ?k_6 ?a_7 ?l_7 ?c_7 ?k_7 ?a_8 ?l_8 ?c_8 ?k_8 ?a_9 ?l_9 ?c_9 ?k_9 ?a_10 ?l_10 ?c_10 ?k_10 ?a_11 ?l_11 ?c_11 ?k_11 ?a_12 ?l_12 ?c_12 ?k_12 ?a_13 ?l_13 ?c_13 ?k_13 ?a_14 ?l_14 ?c_14 ?k_14 ?a_15 ?l_15 ?c_15 ?k_15 ?a_16 ?l_16 ?c_16 ?k_16 ?a_17 ?l_17 ?c_17 ?k_17 ?a_18 ?l_18 ?c_18 ?k_18 ?a_19 ?l_19 ?c_19 ?k_19 ?a_20 ?l_20 ?c_20 ?k_20 ?a_21 ?l_21 ?c_21 ?k_21 ?a_22 ?l_22 ?c_22 ?k_22 ?a_23 ?l_23 ?c_23 ?k_23
    (case z_isinstance => k_is)
    (case z_int => k_is)
    (case z_bool => k_is)
    (case z_tuple => k_is)
    (case z_range => k_is)
    (case z_zip => k_is)
    (case z_enumerate => k_is)
    (case z_len => k_is)
    (case z_abs => k_is)
    (case z_min => k_is)
    (case z_max => k_is)
    (case z_sum => k_is)
    (case g_MOST_COPIES => k_is)
    (case g_MOST_LAG => k_is)
    (case g_MOST_PIECES => k_is)
    (case aC => k_is)
    (case pg => k_is)
    (case hd => k_is)
    (case po => k_is)
    (case sa => k_is)
    (case mk => k_is)
    (case kc => k_is)
    (case n_k => k_is)
    (case n_f => k_is)
    (case n_d => k_is)
    (case n_m => k_is)
    (case n_w1 => k_is)
    (case n_w2 => k_is)
    (case n_g => k_is)
    (case i1 => k_is)
    (case i2 => k_is)
    (case i3 => k_is)
    (case i4 => k_is)
    (case a_0 => k_is)
    (case l_0 => k_is)
    (case c_0 => k_is)
    (case k_0 => k_is)
    (case a_1 => k_is)
    (case l_1 => k_is)
    (case c_1 => k_is)
    (case k_1 => k_is)
    (case t_1 => k_is)
    (case a_2 => k_is)
    (case i_2 => k_is)
    (case l_2 => k_is)
    (case c_2 => k_is)
    (case k_2 => k_is)
    (case a_3 => k_is)
    (case l_3 => k_is)
    (case c_3 => k_is)
    (case k_3 => k_is)
    (case a_4 => k_is)
    (case l_4 => k_is)
    (case c_4 => k_is)
    (case k_4 => k_is)
    (case a_5 => k_is)
    (case l_5 => k_is)
    (case c_5 => k_is)
    (case k_5 => k_is)
    (case a_6 => k_is)
    (case l_6 => k_is)
    (case c_6 => k_is)
    (case k_6 => k_is)
    (case a_7 => k_is)
    (case l_7 => k_is)
    (case c_7 => k_is)
    (case k_7 => k_is)
    (case a_8 => k_is)
    (case l_8 => k_is)
    (case c_8 => k_is)
    (case k_8 => k_is)
    (case a_9 => k_is)
    (case l_9 => k_is)
    (case c_9 => k_is)
    (case k_9 => k_is)
    (case a_10 => k_is)
    (case l_10 => k_is)
    (case c_10 => k_is)
    (case k_10 => k_is)
    (case a_11 => k_is)
    (case l_11 => k_is)
    (case c_11 => k_is)
    (case k_11 => k_is)
    (case a_12 => k_is)
    (case l_12 => k_is)
    (case c_12 => k_is)
    (case k_12 => k_is)
    (case a_13 => k_is)
    (case l_13 => k_is)
    (case c_13 => k_is)
    (case k_13 => k_is)
    (case a_14 => k_is)
    (case l_14 => k_is)
    (case c_14 => k_is)
    (case k_14 => k_is)
    (case a_15 => k_is)
    (case l_15 => k_is)
    (case c_15 => k_is)
    (case k_15 => k_is)
    (case a_16 => k_is)
    (case l_16 => k_is)
    (case c_16 => k_is)
    (case k_16 => k_is)
    (case a_17 => k_is)
    (case l_17 => k_is)
    (case c_17 => k_is)
    (case k_17 => k_is)
    (case a_18 => k_is)
    (case l_18 => k_is)
    (case c_18 => k_is)
    (case k_18 => k_is)
    (case a_19 => k_is)
    (case l_19 => k_is)
    (case c_19 => k_is)
    (case k_19 => k_is)
    (case a_20 => k_is)
    (case l_20 => k_is)
    (case c_20 => k_is)
    (case k_20 => k_is)
    (case a_21 => k_is)
    (case l_21 => k_is)
    (case c_21 => k_is)
    (case k_21 => k_is)
    (case a_22 => k_is)
    (case l_22 => k_is)
    (case c_22 => k_is)
    (case k_22 => k_is)
    (case a_23 => k_is)
    (case l_23 => k_is)
    (case c_23 => k_is)
    (case k_23 => k_is)
